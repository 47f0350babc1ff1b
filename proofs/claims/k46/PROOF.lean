import PyProof.Rows.All
import Wide.All
import OpenK.AllK
import Wide.FinOn
import HandS.ForMost
import HandS.Deep
import HandS.TupAny
import HandS.TupMul
import HandS.IsInst
import HandS.Flow
import HandS.Style
import KE.GoesMore
import KE.KDictCopyH
import KE.KDictPairs
import KE.KDictDisplayH
import KE.KDictKeyed
import KE.SortData
import PySem.Challenge.RW_settlepages_k46_whole_least_endless_stac
set_option Elab.async false
set_option linter.all false
set_option maxRecDepth 100000
set_option maxHeartbeats 4000000
/-! Pure data over the hand layer: what a reading is worth as data (D), with no heap in sight. -/
namespace PD
open PySem L2

inductive D where
  | non | bl (b : Bool) | int (i : Int) | str (s : Str)
  | tup (xs : List D) | lst (xs : List D)
  | con (xs : List PyData)
  | dk (ks : List Key) (ds : List D) | dt (ks : List (List Key)) (ds : List D)
  | dkz (ks : List Key) (ds : List D)
  | ty (n : String)
  | adr (a : Addr)

abbrev Tau := List (Option D)

mutual
def Rp (K : PySem.W.Frag) (M : Addr → Prop) (H : Hp) : D → V → Prop
  | .non, v => v = .non
  | .bl b, v => v = .bl b
  | .int i, v => v = .int i
  | .str s, v => v = .str s
  | .ty n, v => v = .ty n
  | .adr a, v => v = .ref a
  | .tup ds, v => ∃ a vs, v = .ref a ∧ ¬ M a ∧ H a = some (.tup vs) ∧ RpL K M H ds vs
  | .lst ds, v => ∃ a vs, v = .ref a ∧ ¬ M a ∧ H a = some (.lst vs) ∧ RpL K M H ds vs
  | .con ps, v => Dp K (fun _ => none) v (.tuple ps)
  | .dk ks ds, v => ∃ a ws, v = .ref a ∧ ¬ M a ∧ H a = some (.dK ws) ∧ ws.map (·.1) = ks ∧ RpL K M H ds (ws.map (·.2))
  | .dt ks ds, v => ∃ a ws, v = .ref a ∧ ¬ M a ∧ H a = some (.dT ws) ∧ ws.map (·.1) = ks ∧ RpL K M H ds (ws.map (·.2))
  | .dkz ks ds, v => ∃ a ws, v = .ref a ∧ ¬ M a ∧ Rd H a (.dK ws) ∧ ws.map (·.1) = ks ∧ RpL K M H ds (ws.map (·.2))
def RpL (K : PySem.W.Frag) (M : Addr → Prop) (H : Hp) : List D → List V → Prop
  | [], vs => vs = []
  | d :: ds, vs => ∃ v r, vs = v :: r ∧ Rp K M H d v ∧ RpL K M H ds r
end

/-- what was tracked outside of M stands -/
def Le (M : Addr → Prop) (H H' : Hp) : Prop := ∀ a u, ¬ M a → H a = some u → H' a = some u
abbrev M0 : Addr → Prop := fun _ => False
abbrev Le0 (H H' : Hp) : Prop := Le M0 H H'

theorem Le.refl (M : Addr → Prop) (H : Hp) : Le M H H := fun _ _ _ h => h
theorem Le.trans {M : Addr → Prop} {H H1 H2 : Hp} (a : Le M H H1) (b : Le M H1 H2) : Le M H H2 := fun x u n h => b x u n (a x u n h)
theorem Le.of0 {M : Addr → Prop} {H H' : Hp} (a : Le0 H H') : Le M H H' := fun x u _ h => a x u (fun z => z) h
theorem Le.new {H : Hp} {p : Addr} {o : HO} (h : H p = none) : Le0 H (upd H p o) := fun a u _ e => by
  rw [upd_ne (ne_of_none e h)]; exact e
theorem Le.tup {M : Addr → Prop} {H H' : Hp} {a : Addr} {xs : List V} (e : Le M H H') (n : ¬ M a) (h : H a = some (.tup xs)) : H' a = some (.tup xs) := e a _ n h
theorem Le.lst {M : Addr → Prop} {H H' : Hp} {a : Addr} {xs : List V} (e : Le M H H') (n : ¬ M a) (h : H a = some (.lst xs)) : H' a = some (.lst xs) := e a _ n h
theorem Le.rd {M : Addr → Prop} {H H' : Hp} {a : Addr} {u : HO} (e : Le M H H') (n : ¬ M a) (h : Rd H a u) : Rd H' a u := by
  rcases h with h | ⟨o, h⟩
  · exact .inl (e a _ n h)
  · exact .inr ⟨o, e a _ n h⟩
theorem Le.fresh {H H' : Hp} {p : Addr} (e : Le0 H H') (h : H' p = none) : H p = none := by
  cases h1 : H p with
  | none => rfl
  | some o =>
    have q := e p o (fun z => z) h1
    rw [h] at q
    cases q
theorem Le.there {H H' : Hp} {p : Addr} (e : Le0 H H') (h : H p ≠ none) : H' p ≠ none := fun z => h (e.fresh z)

section
variable {K : PySem.W.Frag} {M : Addr → Prop} {H H' : Hp}
mutual
theorem Rp.mono (e : Le M H H') : ∀ {d : D} {v : V}, Rp K M H d v → Rp K M H' d v
  | .non, _, h => by unfold Rp at h ⊢; exact h
  | .bl _, _, h => by unfold Rp at h ⊢; exact h
  | .int _, _, h => by unfold Rp at h ⊢; exact h
  | .str _, _, h => by unfold Rp at h ⊢; exact h
  | .ty _, _, h => by unfold Rp at h ⊢; exact h
  | .adr _, _, h => by unfold Rp at h ⊢; exact h
  | .tup ds, _, h => by
    unfold Rp at h ⊢
    obtain ⟨a, vs, h1, h2, h3, h4⟩ := h
    exact ⟨a, vs, h1, h2, e.tup h2 h3, RpL.mono e h4⟩
  | .lst ds, _, h => by
    unfold Rp at h ⊢
    obtain ⟨a, vs, h1, h2, h3, h4⟩ := h
    exact ⟨a, vs, h1, h2, e.lst h2 h3, RpL.mono e h4⟩
  | .con _, _, h => by unfold Rp at h ⊢; exact h
  | .dk ks ds, _, h => by
    unfold Rp at h ⊢
    obtain ⟨a, vs, h1, h2, h3, h4, h5⟩ := h
    exact ⟨a, vs, h1, h2, e a _ h2 h3, h4, RpL.mono e h5⟩
  | .dt ks ds, _, h => by
    unfold Rp at h ⊢
    obtain ⟨a, vs, h1, h2, h3, h4, h5⟩ := h
    exact ⟨a, vs, h1, h2, e a _ h2 h3, h4, RpL.mono e h5⟩
  | .dkz ks ds, _, h => by
    unfold Rp at h ⊢
    obtain ⟨a, vs, h1, h2, h3, h4, h5⟩ := h
    exact ⟨a, vs, h1, h2, e.rd h2 h3, h4, RpL.mono e h5⟩
theorem RpL.mono (e : Le M H H') : ∀ {ds : List D} {vs : List V}, RpL K M H ds vs → RpL K M H' ds vs
  | [], _, h => by unfold RpL at h ⊢; exact h
  | d :: ds, _, h => by
    unfold RpL at h ⊢
    obtain ⟨v, r, h1, h2, h3⟩ := h
    exact ⟨v, r, h1, Rp.mono e h2, RpL.mono e h3⟩
end
theorem RpL.nil : RpL K M H [] [] := by unfold RpL; rfl
theorem RpL.cons {d : D} {ds : List D} {v : V} {vs : List V} (h : Rp K M H d v) (t : RpL K M H ds vs) : RpL K M H (d :: ds) (v :: vs) := by
  unfold RpL; exact ⟨v, vs, rfl, h, t⟩
theorem RpL.inv {d : D} {ds : List D} {vs : List V} (h : RpL K M H (d :: ds) vs) : ∃ v r, vs = v :: r ∧ Rp K M H d v ∧ RpL K M H ds r := by
  unfold RpL at h; exact h
theorem RpL.inv0 {vs : List V} (h : RpL K M H [] vs) : vs = [] := by unfold RpL at h; exact h
theorem RpL.len : ∀ {ds : List D} {vs : List V}, RpL K M H ds vs → vs.length = ds.length
  | [], _, h => by rw [h.inv0]; rfl
  | _ :: _, _, h => by
    obtain ⟨v, r, rfl, _, t⟩ := h.inv
    simp [RpL.len t]
theorem RpL.get : ∀ {ds : List D} {vs : List V} {i : Nat} {d : D}, RpL K M H ds vs → ds[i]? = some d → ∃ v, vs[i]? = some v ∧ Rp K M H d v
  | [], _, _, _, _, e => by simp at e
  | _ :: _, _, 0, _, h, e => by
    obtain ⟨v, r, rfl, q, _⟩ := h.inv
    simp at e; subst e
    exact ⟨v, rfl, q⟩
  | _ :: ds, _, i + 1, _, h, e => by
    obtain ⟨v, r, rfl, _, t⟩ := h.inv
    simpa using RpL.get (i := i) t (by simpa using e)
theorem RpL.append : ∀ {ds es : List D} {vs ws : List V}, RpL K M H ds vs → RpL K M H es ws → RpL K M H (ds ++ es) (vs ++ ws)
  | [], _, _, _, h, g => by rw [h.inv0]; exact g
  | _ :: _, _, _, _, h, g => by
    obtain ⟨v, r, rfl, q, t⟩ := h.inv
    exact RpL.cons q (RpL.append t g)
theorem RpL.take : ∀ (n : Nat) {ds : List D} {vs : List V}, RpL K M H ds vs → RpL K M H (ds.take n) (vs.take n)
  | 0, _, _, _ => by simpa using RpL.nil
  | _ + 1, [], _, h => by rw [h.inv0]; exact RpL.nil
  | n + 1, _ :: _, _, h => by
    obtain ⟨v, r, rfl, q, t⟩ := h.inv
    exact RpL.cons q (RpL.take n t)
theorem RpL.drop : ∀ (n : Nat) {ds : List D} {vs : List V}, RpL K M H ds vs → RpL K M H (ds.drop n) (vs.drop n)
  | 0, _, _, h => h
  | _ + 1, [], _, h => by rw [h.inv0]; exact RpL.nil
  | n + 1, _ :: _, _, h => by
    obtain ⟨v, r, rfl, q, t⟩ := h.inv
    exact RpL.drop n t
theorem RpL.atI {ds : List D} {vs : List V} {i : Int} {d : D} (h : RpL K M H ds vs) (e : L2.atI ds i = some d) : ∃ v, L2.atI vs i = some v ∧ Rp K M H d v := by
  unfold L2.atI at e ⊢
  rw [h.len]
  cases q : ixN ds.length i with
  | none => rw [q] at e; cases e
  | some j =>
    rw [q] at e
    exact h.get e
/-- ds[lo:hi] -/
def cutD {α : Type} (xs : List α) (lo hi : Option Int) : List α := (xs.drop (HT.sIx xs.length 0 lo)).take (HT.sIx xs.length xs.length hi - HT.sIx xs.length 0 lo)
theorem RpL.cut {ds : List D} {vs : List V} (h : RpL K M H ds vs) (lo hi : Option Int) : RpL K M H (cutD ds lo hi) (cutV vs lo hi) := by
  unfold cutD cutV
  rw [h.len]
  exact RpL.take _ (RpL.drop _ h)

theorem Rp.non_inv {v : V} (h : Rp K M H .non v) : v = .non := by unfold Rp at h; exact h
theorem Rp.bl_inv {b : Bool} {v : V} (h : Rp K M H (.bl b) v) : v = .bl b := by unfold Rp at h; exact h
theorem Rp.int_inv {i : Int} {v : V} (h : Rp K M H (.int i) v) : v = .int i := by unfold Rp at h; exact h
theorem Rp.str_inv {s : Str} {v : V} (h : Rp K M H (.str s) v) : v = .str s := by unfold Rp at h; exact h
theorem Rp.tup_inv {ds : List D} {v : V} (h : Rp K M H (.tup ds) v) : ∃ a vs, v = .ref a ∧ ¬ M a ∧ H a = some (.tup vs) ∧ RpL K M H ds vs := by unfold Rp at h; exact h
theorem Rp.lst_inv {ds : List D} {v : V} (h : Rp K M H (.lst ds) v) : ∃ a vs, v = .ref a ∧ ¬ M a ∧ H a = some (.lst vs) ∧ RpL K M H ds vs := by unfold Rp at h; exact h
theorem Rp.dk_inv {ks : List Key} {ds : List D} {v : V} (h : Rp K M H (.dk ks ds) v) : ∃ a ws, v = .ref a ∧ ¬ M a ∧ H a = some (.dK ws) ∧ ws.map (·.1) = ks ∧ RpL K M H ds (ws.map (·.2)) := by unfold Rp at h; exact h
theorem Rp.dt_inv {ks : List (List Key)} {ds : List D} {v : V} (h : Rp K M H (.dt ks ds) v) : ∃ a ws, v = .ref a ∧ ¬ M a ∧ H a = some (.dT ws) ∧ ws.map (·.1) = ks ∧ RpL K M H ds (ws.map (·.2)) := by unfold Rp at h; exact h
theorem Rp.non : Rp K M H .non .non := by unfold Rp; rfl
theorem Rp.bl (b : Bool) : Rp K M H (.bl b) (.bl b) := by unfold Rp; rfl
theorem Rp.int (i : Int) : Rp K M H (.int i) (.int i) := by unfold Rp; rfl
theorem Rp.ty (n : String) : Rp K M H (.ty n) (.ty n) := by unfold Rp; rfl
theorem Rp.ty_inv {n : String} {v : V} (h : Rp K M H (.ty n) v) : v = .ty n := by unfold Rp at h; exact h
theorem Rp.adr (a : Addr) : Rp K M H (.adr a) (.ref a) := by unfold Rp; rfl
theorem Rp.adr_inv {a : Addr} {v : V} (h : Rp K M H (.adr a) v) : v = .ref a := by unfold Rp at h; exact h
theorem Rp.str (s : Str) : Rp K M H (.str s) (.str s) := by unfold Rp; rfl
theorem Rp.tup {ds : List D} {a : Addr} {vs : List V} (n : ¬ M a) (h : H a = some (.tup vs)) (t : RpL K M H ds vs) : Rp K M H (.tup ds) (.ref a) := by unfold Rp; exact ⟨a, vs, rfl, n, h, t⟩
theorem Rp.lst {ds : List D} {a : Addr} {vs : List V} (n : ¬ M a) (h : H a = some (.lst vs)) (t : RpL K M H ds vs) : Rp K M H (.lst ds) (.ref a) := by unfold Rp; exact ⟨a, vs, rfl, n, h, t⟩
theorem Rp.dk {ks : List Key} {ds : List D} {a : Addr} {ws : List (Key × V)} (n : ¬ M a) (h : H a = some (.dK ws)) (e : ws.map (·.1) = ks) (t : RpL K M H ds (ws.map (·.2))) : Rp K M H (.dk ks ds) (.ref a) := by unfold Rp; exact ⟨a, ws, rfl, n, h, e, t⟩
theorem Rp.dt {ks : List (List Key)} {ds : List D} {a : Addr} {ws : List (List Key × V)} (n : ¬ M a) (h : H a = some (.dT ws)) (e : ws.map (·.1) = ks) (t : RpL K M H ds (ws.map (·.2))) : Rp K M H (.dt ks ds) (.ref a) := by unfold Rp; exact ⟨a, ws, rfl, n, h, e, t⟩
/-! the tracked set made smaller -/
mutual
theorem Rp.weak {M' : Addr → Prop} (w : ∀ a, M' a → M a) : ∀ {d : D} {v : V}, Rp K M H d v → Rp K M' H d v
  | .non, _, h => by unfold Rp at h ⊢; exact h
  | .bl _, _, h => by unfold Rp at h ⊢; exact h
  | .int _, _, h => by unfold Rp at h ⊢; exact h
  | .str _, _, h => by unfold Rp at h ⊢; exact h
  | .ty _, _, h => by unfold Rp at h ⊢; exact h
  | .adr _, _, h => by unfold Rp at h ⊢; exact h
  | .tup ds, _, h => by
    unfold Rp at h ⊢
    obtain ⟨a, vs, h1, h2, h3, h4⟩ := h
    exact ⟨a, vs, h1, fun z => h2 (w a z), h3, RpL.weak w h4⟩
  | .lst ds, _, h => by
    unfold Rp at h ⊢
    obtain ⟨a, vs, h1, h2, h3, h4⟩ := h
    exact ⟨a, vs, h1, fun z => h2 (w a z), h3, RpL.weak w h4⟩
  | .con _, _, h => by unfold Rp at h ⊢; exact h
  | .dk ks ds, _, h => by
    unfold Rp at h ⊢
    obtain ⟨a, vs, h1, h2, h3, h4, h5⟩ := h
    exact ⟨a, vs, h1, fun z => h2 (w a z), h3, h4, RpL.weak w h5⟩
  | .dt ks ds, _, h => by
    unfold Rp at h ⊢
    obtain ⟨a, vs, h1, h2, h3, h4, h5⟩ := h
    exact ⟨a, vs, h1, fun z => h2 (w a z), h3, h4, RpL.weak w h5⟩
  | .dkz ks ds, _, h => by
    unfold Rp at h ⊢
    obtain ⟨a, vs, h1, h2, h3, h4, h5⟩ := h
    exact ⟨a, vs, h1, fun z => h2 (w a z), h3, h4, RpL.weak w h5⟩
theorem RpL.weak {M' : Addr → Prop} (w : ∀ a, M' a → M a) : ∀ {ds : List D} {vs : List V}, RpL K M H ds vs → RpL K M' H ds vs
  | [], _, h => by unfold RpL at h ⊢; exact h
  | d :: ds, _, h => by
    unfold RpL at h ⊢
    obtain ⟨v, r, h1, h2, h3⟩ := h
    exact ⟨v, r, h1, Rp.weak w h2, RpL.weak w h3⟩
end
/-! a fresh place beside M -/
mutual
theorem Rp.add {p : Addr} (hp : H p = none) : ∀ {d : D} {v : V}, Rp K M H d v → Rp K (fun a => M a ∨ a = p) H d v
  | .non, _, h => by unfold Rp at h ⊢; exact h
  | .bl _, _, h => by unfold Rp at h ⊢; exact h
  | .int _, _, h => by unfold Rp at h ⊢; exact h
  | .str _, _, h => by unfold Rp at h ⊢; exact h
  | .ty _, _, h => by unfold Rp at h ⊢; exact h
  | .adr _, _, h => by unfold Rp at h ⊢; exact h
  | .tup ds, _, h => by
    unfold Rp at h ⊢
    obtain ⟨a, vs, h1, h2, h3, h4⟩ := h
    exact ⟨a, vs, h1, fun z => z.elim h2 (ne_of_none h3 hp), h3, RpL.add hp h4⟩
  | .lst ds, _, h => by
    unfold Rp at h ⊢
    obtain ⟨a, vs, h1, h2, h3, h4⟩ := h
    exact ⟨a, vs, h1, fun z => z.elim h2 (ne_of_none h3 hp), h3, RpL.add hp h4⟩
  | .con _, _, h => by unfold Rp at h ⊢; exact h
  | .dk ks ds, _, h => by
    unfold Rp at h ⊢
    obtain ⟨a, vs, h1, h2, h3, h4, h5⟩ := h
    exact ⟨a, vs, h1, fun z => z.elim h2 (ne_of_none h3 hp), h3, h4, RpL.add hp h5⟩
  | .dt ks ds, _, h => by
    unfold Rp at h ⊢
    obtain ⟨a, vs, h1, h2, h3, h4, h5⟩ := h
    exact ⟨a, vs, h1, fun z => z.elim h2 (ne_of_none h3 hp), h3, h4, RpL.add hp h5⟩
  | .dkz ks ds, _, h => by
    unfold Rp at h ⊢
    obtain ⟨a, vs, h1, h2, h3, h4, h5⟩ := h
    exact ⟨a, vs, h1, fun z => z.elim h2 (fun e => by
      rcases h3 with h3 | ⟨o, h3⟩
      · exact ne_of_none h3 hp e
      · exact ne_of_none h3 hp e), h3, h4, RpL.add hp h5⟩
theorem RpL.add {p : Addr} (hp : H p = none) : ∀ {ds : List D} {vs : List V}, RpL K M H ds vs → RpL K (fun a => M a ∨ a = p) H ds vs
  | [], _, h => by unfold RpL at h ⊢; exact h
  | d :: ds, _, h => by
    unfold RpL at h ⊢
    obtain ⟨v, r, h1, h2, h3⟩ := h
    exact ⟨v, r, h1, Rp.add hp h2, RpL.add hp h3⟩
end
/-! ### as PyData -/
mutual
def toP : D → PyData
  | .non => .none
  | .bl b => .bool b
  | .int i => .int i
  | .str s => .str s
  | .tup ds => .tuple (toPs ds)
  | .lst ds => .list (toPs ds)
  | .con ps => .tuple ps
  | .dk _ _ => .dict []
  | .dt _ _ => .dict []
  | .dkz _ _ => .dict []
  | .ty _ => .dict []
  | .adr _ => .dict []
def toPs : List D → List PyData
  | [] => []
  | d :: ds => toP d :: toPs ds
end
mutual
def noD : D → Bool
  | .tup ds => noDs ds
  | .lst ds => noDs ds
  | .dk _ _ => false
  | .dt _ _ => false
  | .dkz _ _ => false
  | .ty _ => false
  | .adr _ => false
  | _ => true
def noDs : List D → Bool
  | [] => true
  | d :: ds => noD d && noDs ds
end
mutual
theorem Dp.up (e : ∀ a o, (fun _ => none : Hp) a = some o → H a = some o) : ∀ {v : V} {d : PyData}, Dp K (fun _ => none) v d → Dp K H v d
  | _, _, .non => .non
  | _, _, .bl b => .bl b
  | _, _, .int i => .int i
  | _, _, .str x => .str x
  | _, _, .lst (a := a) (xs := xs) s t => .lst (by
      rcases s with (s | ⟨o, s⟩) | s
      · cases s
      · cases s
      · exact .inr s) (DpAll.up e t)
  | _, _, .tup (a := a) (xs := xs) s t => .tup (by
      rcases s with (s | ⟨o, s⟩) | s
      · cases s
      · cases s
      · exact .inr s) (DpAll.up e t)
theorem DpAll.up (e : ∀ a o, (fun _ => none : Hp) a = some o → H a = some o) : ∀ {vs : List V} {ds : List PyData}, DpAll K (fun _ => none) vs ds → DpAll K H vs ds
  | _, _, .nil => .nil
  | _, _, .cons h t => .cons (Dp.up e h) (DpAll.up e t)
end
mutual
theorem Rp.dp : ∀ {d : D} {v : V}, Rp K M H d v → noD d = true → Dp K H v (toP d)
  | .non, _, h, _ => by rw [h.non_inv]; exact .non
  | .bl _, _, h, _ => by rw [h.bl_inv]; exact .bl _
  | .int _, _, h, _ => by rw [h.int_inv]; exact .int _
  | .str _, _, h, _ => by rw [h.str_inv]; exact .str _
  | .tup ds, _, h, n => by
    obtain ⟨a, vs, rfl, _, h3, h4⟩ := h.tup_inv
    unfold noD at n
    unfold toP
    exact .tup (.inl (.inl h3)) (RpL.dp h4 n)
  | .lst ds, _, h, n => by
    obtain ⟨a, vs, rfl, _, h3, h4⟩ := h.lst_inv
    unfold noD at n
    unfold toP
    exact .lst (.inl (.inl h3)) (RpL.dp h4 n)
  | .con ps, _, h, _ => by
    unfold Rp at h
    unfold toP
    exact Dp.up (fun _ _ z => nomatch z) h
  | .dk _ _, _, _, n => by unfold noD at n; cases n
  | .dt _ _, _, _, n => by unfold noD at n; cases n
  | .dkz _ _, _, _, n => by unfold noD at n; cases n
  | .ty _, _, _, n => by unfold noD at n; cases n
  | .adr _, _, _, n => by unfold noD at n; cases n
theorem RpL.dp : ∀ {ds : List D} {vs : List V}, RpL K M H ds vs → noDs ds = true → DpAll K H vs (toPs ds)
  | [], _, h, _ => by rw [h.inv0]; unfold toPs; exact .nil
  | d :: ds, _, h, n => by
    obtain ⟨v, r, rfl, q, t⟩ := h.inv
    unfold noDs at n
    rw [Bool.and_eq_true] at n
    unfold toPs
    exact .cons (Rp.dp q n.1) (RpL.dp t n.2)
end

/-! ### slots -/
structure Rel (K : PySem.W.Frag) (M : Addr → Prop) (H : Hp) (σ : L2.St) (τ : Tau) : Prop where
  tr : ∀ a, M a → H a ≠ none
  len : σ.length = τ.length
  at_ : ∀ (i : Nat) (d : D), τ[i]? = some (some d) → ∃ v, σ[i]? = some (some v) ∧ Rp K M H d v
theorem Rel.mono {σ : L2.St} {τ : Tau} (r : Rel K M H σ τ) (e : Le0 H H') : Rel K M H' σ τ :=
  ⟨fun a m => e.there (r.tr a m), r.len, fun i d q => by
    obtain ⟨v, h1, h2⟩ := r.at_ i d q
    exact ⟨v, h1, h2.mono e.of0⟩⟩
theorem Rel.set {σ : L2.St} {τ : Tau} {d : D} {v : V} (r : Rel K M H σ τ) (i : Nat) (h : Rp K M H d v) : Rel K M H (σ.set i (some v)) (τ.set i (some d)) :=
  ⟨r.tr, by rw [List.length_set, List.length_set]; exact r.len, fun j e q => by
    rw [List.getElem?_set] at q ⊢
    by_cases hij : i = j
    · subst hij
      rw [if_pos rfl] at q ⊢
      by_cases hl : i < τ.length
      · rw [if_pos hl] at q
        rw [if_pos (by rw [r.len]; exact hl)]
        have e1 : some d = some e := Option.some.inj q
        have e2 : d = e := Option.some.inj e1
        subst e2
        exact ⟨v, rfl, h⟩
      · rw [if_neg hl] at q; cases q
    · rw [if_neg hij] at q ⊢
      exact r.at_ j e q⟩
theorem Rel.forget {σ : L2.St} {τ : Tau} (r : Rel K M H σ τ) (i : Nat) (x : Option V) : Rel K M H (σ.set i x) (τ.set i none) :=
  ⟨r.tr, by rw [List.length_set, List.length_set]; exact r.len, fun j e q => by
    rw [List.getElem?_set] at q ⊢
    by_cases hij : i = j
    · subst hij
      rw [if_pos rfl] at q
      by_cases hl : i < τ.length
      · rw [if_pos hl] at q; cases q
      · rw [if_neg hl] at q; cases q
    · rw [if_neg hij] at q ⊢
      exact r.at_ j e q⟩
def wipeT (τ : Tau) : List Nat → Tau
  | [] => τ
  | v :: vs => (wipeT τ vs).set v none
theorem Rel.wipe {σ : L2.St} {τ : Tau} (r : Rel K M H σ τ) : ∀ vs : List Nat, Rel K M H (wipe σ vs) (wipeT τ vs)
  | [] => r
  | v :: vs => (Rel.wipe r vs).forget v none

/-! ### what evaluates to what -/
def EvP (K : PySem.W.Frag) (M : Addr → Prop) (te : TE) (τ : Tau) (P : D → Prop) : Prop := ∀ σ H, Rel K M H σ τ → ∀ Q : VK, (∀ v H' d, Le0 H H' → Rp K M H' d v → P d → Q v H') → te σ H Q
def EvD (K : PySem.W.Frag) (M : Addr → Prop) (te : TE) (τ : Tau) (d : D) : Prop := ∀ σ H, Rel K M H σ τ → ∀ Q : VK, (∀ v H', Le0 H H' → Rp K M H' d v → Q v H') → te σ H Q
def EtD (K : PySem.W.Frag) (M : Addr → Prop) (tt : TT) (τ : Tau) (b : Bool) : Prop := ∀ σ H, Rel K M H σ τ → ∀ Q : Bool → Hp → Prop, (∀ H', Le0 H H' → Q b H') → tt σ H Q
def EaD (K : PySem.W.Frag) (M : Addr → Prop) (ta : TA) (τ : Tau) (ds : List D) : Prop := ∀ σ H, Rel K M H σ τ → ∀ Q : List V → Hp → Prop, (∀ vs H', Le0 H H' → RpL K M H' ds vs → Q vs H') → ta σ H Q
def EoD (K : PySem.W.Frag) (M : Addr → Prop) (to : TO) (τ : Tau) (o : Option Int) : Prop := ∀ σ H, Rel K M H σ τ → ∀ Q : Option Int → Hp → Prop, (∀ H', Le0 H H' → Q o H') → to σ H Q
/-- operations by values -/
def RvD (K : PySem.W.Frag) (M : Addr → Prop) (r : R2) (d e f : D) : Prop := ∀ x y H, (∀ a, M a → H a ≠ none) → Rp K M H d x → Rp K M H e y → ∀ Q : VK, (∀ v H', Le0 H H' → Rp K M H' f v → Q v H') → r x y H Q
def RuD (K : PySem.W.Frag) (M : Addr → Prop) (r : V → Hp → VK → Prop) (d f : D) : Prop := ∀ x H, (∀ a, M a → H a ≠ none) → Rp K M H d x → ∀ Q : VK, (∀ v H', Le0 H H' → Rp K M H' f v → Q v H') → r x H Q
def RcD (K : PySem.W.Frag) (M : Addr → Prop) (r : List V → Hp → VK → Prop) (ds : List D) (f : D) : Prop := ∀ vs H, (∀ a, M a → H a ≠ none) → RpL K M H ds vs → ∀ Q : VK, (∀ v H', Le0 H H' → Rp K M H' f v → Q v H') → r vs H Q

variable {te ta tb tc : TE} {tt tu : TT} {tl : TA} {τ : Tau} {d e f : D} {ds : List D}
theorem EvD.p {P : D → Prop} (h : EvD K M te τ d) (hp : P d) : EvP K M te τ P := fun σ H r Q q => h σ H r Q fun v H' a b => q v H' d a b hp
theorem ed_var {i : Nat} (h : τ[i]? = some (some d)) : EvD K M (tVar i) τ d := fun σ H r Q q => by
  obtain ⟨v, h1, h2⟩ := r.at_ i d h
  exact ⟨v, h1, q v H (Le.refl _ _) h2⟩
theorem ed_int {i : Int} : EvD K M (tC (.int i)) τ (.int i) := fun σ H r Q q => q _ H (Le.refl _ _) (Rp.int i)
theorem ed_bl {b : Bool} : EvD K M (tC (.bl b)) τ (.bl b) := fun σ H r Q q => q _ H (Le.refl _ _) (Rp.bl b)
theorem ed_str {s : Str} : EvD K M (tC (.str s)) τ (.str s) := fun σ H r Q q => q _ H (Le.refl _ _) (Rp.str s)
theorem ed_ty {n : String} : EvD K M (tC (.ty n)) τ (.ty n) := fun σ H r Q q => q _ H (Le.refl _ _) (Rp.ty n)
theorem ed_non : EvD K M (tC .non) τ .non := fun σ H r Q q => q _ H (Le.refl _ _) Rp.non
theorem ed_con {a : Addr} {ps : List PyData} (h : Dp K (fun _ => none) (.ref a) (.tuple ps)) : EvD K M (tC (.ref a)) τ (.con ps) := fun σ H r Q q => q _ H (Le.refl _ _) (by unfold Rp; exact h)
theorem ed_is (h : EvD K M te τ d) (e' : d = e) : EvD K M te τ e := e' ▸ h
theorem et_is {b c : Bool} (h : EtD K M tt τ b) (e' : b = c) : EtD K M tt τ c := e' ▸ h
theorem ea_nil : EaD K M tNil τ [] := fun σ H r Q q => q [] H (Le.refl _ _) RpL.nil
theorem ea_cons (h : EvD K M te τ d) (t : EaD K M tl τ ds) : EaD K M (tCons te tl) τ (d :: ds) := fun σ H r Q q =>
  h σ H r _ fun v H1 e1 p1 => t σ H1 (r.mono e1) _ fun vs H2 e2 p2 => q (v :: vs) H2 (e1.trans e2) (RpL.cons (p1.mono e2.of0) p2)
theorem not_M {p : Addr} (tr : ∀ a, M a → H a ≠ none) (h : H p = none) : ¬ M p := fun z => tr p z h
theorem ed_tup (h : EaD K M tl τ ds) (hl : ds.length ≤ 100000) : EvD K M (tTup tl) τ (.tup ds) := fun σ H r Q q =>
  h σ H r _ fun vs H1 e1 p1 => ⟨by rw [p1.len]; exact Nat.le_trans hl (by decide), fun p hp =>
    q (.ref p) _ (e1.trans (Le.new hp)) (Rp.tup (not_M (r.mono e1).tr hp) upd_same (p1.mono (Le.new hp).of0))⟩
theorem ed_lst (h : EaD K M tl τ ds) (hl : ds.length ≤ 100000) : EvD K M (tLst tl) τ (.lst ds) := fun σ H r Q q =>
  h σ H r _ fun vs H1 e1 p1 => ⟨by rw [p1.len]; exact Nat.le_trans hl (by decide), fun p hp =>
    q (.ref p) _ (e1.trans (Le.new hp)) (Rp.lst (not_M (r.mono e1).tr hp) upd_same (p1.mono (Le.new hp).of0))⟩
theorem ed_op {r : R2} (ha : EvD K M ta τ d) (hb : EvD K M tb τ e) (hr : RvD K M r d e f) : EvD K M (tOp r ta tb) τ f := fun σ H rl Q q =>
  ha σ H rl _ fun x H1 e1 p1 => hb σ H1 (rl.mono e1) _ fun y H2 e2 p2 => hr x y H2 (rl.mono (e1.trans e2)).tr (p1.mono e2.of0) p2 _ fun v H3 e3 p3 => q v H3 ((e1.trans e2).trans e3) p3
theorem ed_un {r : V → Hp → VK → Prop} (ha : EvD K M ta τ d) (hr : RuD K M r d f) : EvD K M (tUn r ta) τ f := fun σ H rl Q q =>
  ha σ H rl _ fun x H1 e1 p1 => hr x H1 (rl.mono e1).tr p1 _ fun v H2 e2 p2 => q v H2 (e1.trans e2) p2
theorem ed_cb {r : List V → Hp → VK → Prop} (h : EaD K M tl τ ds) (hr : RcD K M r ds f) : EvD K M (tCB r tl) τ f := fun σ H rl Q q =>
  h σ H rl _ fun vs H1 e1 p1 => hr vs H1 (rl.mono e1).tr p1 _ fun v H2 e2 p2 => q v H2 (e1.trans e2) p2

/-! operators -/
theorem rv_I0 {g : Int → Int → V} {i j : Int} (h : ∀ H, Rp K M H f (g i j)) : RvD K M (rI0 g) (.int i) (.int j) f := fun x y H _ hx hy Q q =>
  ⟨i, j, hx.int_inv, hy.int_inv, q _ H (Le.refl _ _) (h H)⟩
theorem rv_I {C : Int → Int → Prop} {g : Int → Int → V} {i j : Int} (hc : C i j) (h : ∀ H, Rp K M H f (g i j)) : RvD K M (rI C g) (.int i) (.int j) f := fun x y H _ hx hy Q q =>
  ⟨i, j, hx.int_inv, hy.int_inv, hc, q _ H (Le.refl _ _) (h H)⟩
theorem rv_add {i j : Int} : RvD K M (rI0 fun i j => .int (i + j)) (.int i) (.int j) (.int (i + j)) := rv_I0 fun _ => Rp.int _
theorem rv_sub {i j : Int} : RvD K M (rI0 fun i j => .int (i - j)) (.int i) (.int j) (.int (i - j)) := rv_I0 fun _ => Rp.int _
theorem rv_lt {i j : Int} : RvD K M (rI0 fun i j => .bl (decide (i < j))) (.int i) (.int j) (.bl (decide (i < j))) := rv_I0 fun _ => Rp.bl _
theorem rv_le {i j : Int} : RvD K M (rI0 fun i j => .bl (decide (i ≤ j))) (.int i) (.int j) (.bl (decide (i ≤ j))) := rv_I0 fun _ => Rp.bl _
theorem rv_gt {i j : Int} : RvD K M (rI0 fun i j => .bl (decide (j < i))) (.int i) (.int j) (.bl (decide (j < i))) := rv_I0 fun _ => Rp.bl _
theorem ru_neg {i : Int} : RuD K M (rU fun i => .int (-i)) (.int i) (.int (-i)) := fun x H _ hx Q q => ⟨i, hx.int_inv, q _ H (Le.refl _ _) (Rp.int _)⟩
theorem rv_eqD (h1 : noD d = true) (h2 : noD e = true) (s1 : SeqAt.shaped (toP d) = true) (s2 : SeqAt.shaped (toP e) = true) : RvD K M (rEqD K) d e (.bl (PyData.eqv (toP d) (toP e))) := fun x y H _ hx hy Q q =>
  ⟨_, _, hx.dp h1, hy.dp h2, s1, s2, q _ H (Le.refl _ _) (Rp.bl _)⟩
theorem rv_neD (h1 : noD d = true) (h2 : noD e = true) (s1 : SeqAt.shaped (toP d) = true) (s2 : SeqAt.shaped (toP e) = true) : RvD K M (rNeD K) d e (.bl (!PyData.eqv (toP d) (toP e))) := fun x y H _ hx hy Q q =>
  ⟨_, _, hx.dp h1, hy.dp h2, s1, s2, q _ H (Le.refl _ _) (Rp.bl _)⟩
theorem rv_inD {es : List D} (h1 : noD d = true) (h2 : noDs es = true) (s1 : SeqAt.shaped (toP d) = true) (s2 : SeqAt.shaped (.list (toPs es)) = true) : RvD K M (rInD K) d (.lst es) (.bl ((toPs es).any fun z => PyData.eqv z (toP d))) := fun x y H _ hx hy Q q =>
  ⟨toP d, toPs es, hx.dp h1, (by have := hy.dp (show noD (.lst es) = true by unfold noD; exact h2); unfold toP at this; exact this), s1, s2, q _ H (Le.refl _ _) (Rp.bl _)⟩
theorem rv_notInD {es : List D} (h1 : noD d = true) (h2 : noDs es = true) (s1 : SeqAt.shaped (toP d) = true) (s2 : SeqAt.shaped (.list (toPs es)) = true) : RvD K M (rNotInD K) d (.lst es) (.bl (!(toPs es).any fun z => PyData.eqv z (toP d))) := fun x y H _ hx hy Q q =>
  ⟨toP d, toPs es, hx.dp h1, (by have := hy.dp (show noD (.lst es) = true by unfold noD; exact h2); unfold toP at this; exact this), s1, s2, q _ H (Le.refl _ _) (Rp.bl _)⟩
theorem rv_ixT {i : Int} (h : L2.atI ds i = some d) : RvD K M (rIxT K) (.tup ds) (.int i) d := fun x y H _ hx hy Q q => by
  obtain ⟨a, vs, h1, _, h3, h4⟩ := hx.tup_inv
  obtain ⟨v, g1, g2⟩ := h4.atI h
  exact ⟨a, vs, i, v, h1, hy.int_inv, .inl (.inl h3), g1, q v H (Le.refl _ _) g2⟩
theorem rv_ixL {i : Int} (h : L2.atI ds i = some d) : RvD K M (rIxL K) (.lst ds) (.int i) d := fun x y H _ hx hy Q q => by
  obtain ⟨a, vs, h1, _, h3, h4⟩ := hx.lst_inv
  obtain ⟨v, g1, g2⟩ := h4.atI h
  exact ⟨a, vs, i, v, h1, hy.int_inv, .inl (.inl h3), g1, q v H (Le.refl _ _) g2⟩
theorem rv_cat {es : List D} (hz : ds.length + es.length ≤ 100000) : RvD K M (rCatA K) (.tup ds) (.tup es) (.tup (ds ++ es)) := fun x y H tr hx hy Q q => by
  obtain ⟨a, vs, h1, n1, h3, h4⟩ := hx.tup_inv
  obtain ⟨b, ws, g1, n2, g3, g4⟩ := hy.tup_inv
  refine ⟨a, b, vs, ws, h1, g1, .inl (.inl h3), .inl (.inl g3), by rw [h4.len, g4.len]; exact Nat.le_trans hz (by decide), fun z => ?_, fun _ z => ?_, fun _ _ p hp => ?_⟩
  · subst z
    have : ds = [] := by
      have := h4.len
      exact List.length_eq_zero_iff.mp this.symm
    subst this
    exact q _ H (Le.refl _ _) (Rp.tup n2 g3 g4)
  · subst z
    have : es = [] := by
      have := g4.len
      exact List.length_eq_zero_iff.mp this.symm
    subst this
    rw [List.append_nil] at q
    exact q _ H (Le.refl _ _) (Rp.tup n1 h3 h4)
  · exact q _ _ (Le.new hp) (Rp.tup (not_M tr hp) upd_same ((h4.append g4).mono (Le.new hp).of0))
theorem rv_catL {es : List D} (hz : ds.length + es.length ≤ 100000) : RvD K M rCat (.lst ds) (.lst es) (.lst (ds ++ es)) := fun x y H tr hx hy Q q => by
  obtain ⟨a, vs, h1, n1, h3, h4⟩ := hx.lst_inv
  obtain ⟨b, ws, g1, n2, g3, g4⟩ := hy.lst_inv
  exact ⟨a, b, vs, ws, h1, g1, h3, g3, by rw [h4.len, g4.len]; exact Nat.le_trans hz (by decide), fun p hp => q _ _ (Le.new hp) (Rp.lst (not_M tr hp) upd_same ((h4.append g4).mono (Le.new hp).of0))⟩
/-! slices -/
theorem eo_none : EoD K M tNoPart τ none := fun σ H r Q q => q H (Le.refl _ _)
theorem eo_some {i : Int} (h : EvD K M te τ (.int i)) : EoD K M (tPart te) τ (some i) := fun σ H r Q q => h σ H r _ fun v H1 e1 p1 => ⟨i, p1.int_inv, q H1 e1⟩
theorem ed_slT {to1 to2 : TO} {lo hi : Option Int} (h : EvD K M te τ (.tup ds)) (h1 : EoD K M to1 τ lo) (h2 : EoD K M to2 τ hi) : EvD K M (tSl (rSlA K) te to1 to2) τ (.tup (cutD ds lo hi)) := fun σ H r Q q =>
  h σ H r _ fun v H1 e1 p1 => h1 σ H1 (r.mono e1) _ fun H2 e2 => h2 σ H2 (r.mono (e1.trans e2)) _ fun H3 e3 => by
    have tr := (r.mono ((e1.trans e2).trans e3)).tr
    obtain ⟨a, vs, g1, n1, g3, g4⟩ := (p1.mono (e2.trans e3).of0).tup_inv
    refine ⟨a, vs, g1, .inl (.inl g3), fun ⟨z1, z2⟩ => ?_, fun _ p hp => ?_⟩
    · have : cutD ds lo hi = ds := by
        unfold cutD
        rw [g4.len] at z1 z2
        rw [z1, z2]
        simp
      rw [this] at q
      exact q _ H3 ((e1.trans e2).trans e3) (Rp.tup n1 g3 g4)
    · exact q _ _ (((e1.trans e2).trans e3).trans (Le.new hp)) (Rp.tup (not_M tr hp) upd_same ((g4.cut lo hi).mono (Le.new hp).of0))
theorem ed_slL {to1 to2 : TO} {lo hi : Option Int} (h : EvD K M te τ (.lst ds)) (h1 : EoD K M to1 τ lo) (h2 : EoD K M to2 τ hi) : EvD K M (tSl (rSlL K) te to1 to2) τ (.lst (cutD ds lo hi)) := fun σ H r Q q =>
  h σ H r _ fun v H1 e1 p1 => h1 σ H1 (r.mono e1) _ fun H2 e2 => h2 σ H2 (r.mono (e1.trans e2)) _ fun H3 e3 => by
    have tr := (r.mono ((e1.trans e2).trans e3)).tr
    obtain ⟨a, vs, g1, n1, g3, g4⟩ := (p1.mono (e2.trans e3).of0).lst_inv
    exact ⟨a, vs, g1, .inl (.inl g3), fun p hp => q _ _ (((e1.trans e2).trans e3).trans (Le.new hp)) (Rp.lst (not_M tr hp) upd_same ((g4.cut lo hi).mono (Le.new hp).of0))⟩
/-! tests -/
theorem et_test {b : Bool} (h : EvD K M te τ (.bl b)) : EtD K M (tTest te) τ b := fun σ H r Q q => h σ H r _ fun v H1 e1 p1 => ⟨b, p1.bl_inv, q H1 e1⟩
theorem et_B {b : Bool} (h : EvD K M te τ (.bl b)) : EtD K M (tB te) τ b := fun σ H r Q q => h σ H r _ fun v H1 e1 p1 => ⟨b, p1.bl_inv, q H1 e1⟩
theorem et_yes : EtD K M tYes τ true := fun σ H r Q q => q H (Le.refl _ _)
theorem et_not {b : Bool} (h : EtD K M tt τ b) : EtD K M (tNot tt) τ (!b) := fun σ H r Q q => h σ H r _ fun H1 e1 => q H1 e1
theorem et_and {a b : Bool} (h1 : EtD K M tt τ a) (h2 : a = true → EtD K M tu τ b) : EtD K M (tAnd tt tu) τ (a && b) := fun σ H r Q q => h1 σ H r _ fun H1 e1 => by
  cases a with
  | true =>
    show tu σ H1 Q
    exact h2 rfl σ H1 (r.mono e1) Q fun H2 e2 => q H2 (e1.trans e2)
  | false =>
    show Q false H1
    exact q H1 e1
theorem et_or {a b : Bool} (h1 : EtD K M tt τ a) (h2 : a = false → EtD K M tu τ b) : EtD K M (tOr tt tu) τ (a || b) := fun σ H r Q q => h1 σ H r _ fun H1 e1 => by
  cases a with
  | false =>
    show tu σ H1 Q
    exact h2 rfl σ H1 (r.mono e1) Q fun H2 e2 => q H2 (e1.trans e2)
  | true =>
    show Q true H1
    exact q H1 e1
theorem ed_andV {a b : Bool} (h1 : EvD K M ta τ (.bl a)) (h2 : a = true → EvD K M tb τ (.bl b)) : EvD K M (tAndV ta tb) τ (.bl (a && b)) := fun σ H r Q q => h1 σ H r _ fun v H1 e1 p1 => ⟨a, p1.bl_inv, by
  cases a with
  | true =>
    show tb σ H1 Q
    exact h2 rfl σ H1 (r.mono e1) Q fun v2 H2 e2 p2 => q v2 H2 (e1.trans e2) p2
  | false =>
    show Q (.bl false) H1
    exact q _ H1 e1 (Rp.bl _)⟩
theorem ed_orV {a b : Bool} (h1 : EvD K M ta τ (.bl a)) (h2 : a = false → EvD K M tb τ (.bl b)) : EvD K M (tOrV ta tb) τ (.bl (a || b)) := fun σ H r Q q => h1 σ H r _ fun v H1 e1 p1 => ⟨a, p1.bl_inv, by
  cases a with
  | false =>
    show tb σ H1 Q
    exact h2 rfl σ H1 (r.mono e1) Q fun v2 H2 e2 p2 => q v2 H2 (e1.trans e2) p2
  | true =>
    show Q (.bl true) H1
    exact q _ H1 e1 (Rp.bl _)⟩
theorem ed_notV {a : Bool} (h1 : EvD K M ta τ (.bl a)) : EvD K M (tNotV ta) τ (.bl (!a)) := fun σ H r Q q => h1 σ H r _ fun v H1 e1 p1 => ⟨a, p1.bl_inv, q _ H1 e1 (Rp.bl _)⟩
theorem ed_if {b : Bool} (h : EtD K M tt τ b) (h1 : b = true → EvD K M ta τ d) (h2 : b = false → EvD K M tb τ d) : EvD K M (tIf tt ta tb) τ d := fun σ H r Q q => h σ H r _ fun H1 e1 => by
  cases b with
  | true =>
    show ta σ H1 Q
    exact h1 rfl σ H1 (r.mono e1) Q fun v2 H2 e2 p2 => q v2 H2 (e1.trans e2) p2
  | false =>
    show tb σ H1 Q
    exact h2 rfl σ H1 (r.mono e1) Q fun v2 H2 e2 p2 => q v2 H2 (e1.trans e2) p2
theorem ep_if {b : Bool} {P : D → Prop} (h : EtD K M tt τ b) (h1 : b = true → EvP K M ta τ P) (h2 : b = false → EvP K M tb τ P) : EvP K M (tIf tt ta tb) τ P := fun σ H r Q q => h σ H r _ fun H1 e1 => by
  cases b with
  | true =>
    show ta σ H1 Q
    exact h1 rfl σ H1 (r.mono e1) Q fun v2 H2 d2 e2 p2 z => q v2 H2 d2 (e1.trans e2) p2 z
  | false =>
    show tb σ H1 Q
    exact h2 rfl σ H1 (r.mono e1) Q fun v2 H2 d2 e2 p2 z => q v2 H2 d2 (e1.trans e2) p2 z
/-- a < b < c -/
theorem ed_chain {r r' : R2} {b c : Bool} {g : D} (ha : EvD K M ta τ d) (hb : EvD K M tb τ e) (hr : RvD K M r d e (.bl b)) (hc : EvD K M tc τ g) (hr' : RvD K M r' e g (.bl c)) : EvD K M (tChain r r' ta tb tc) τ (.bl (b && c)) := fun σ H rl Q q =>
  ha σ H rl _ fun x H1 e1 p1 => hb σ H1 (rl.mono e1) _ fun y H2 e2 p2 => hr x y H2 (rl.mono (e1.trans e2)).tr (p1.mono e2.of0) p2 _ fun v H3 e3 p3 => ⟨b, p3.bl_inv, by
    cases b with
    | true =>
      show tc σ H3 fun w' H4 => r' y w' H4 Q
      exact hc σ H3 (rl.mono ((e1.trans e2).trans e3)) _ fun w H4 e4 p4 => hr' y w H4 (rl.mono (((e1.trans e2).trans e3).trans e4)).tr (p2.mono (e3.trans e4).of0) p4 _ fun v5 H5 e5 p5 => q v5 H5 ((((e1.trans e2).trans e3).trans e4).trans e5) p5
    | false =>
      show Q (.bl false) H3
      exact q _ H3 ((e1.trans e2).trans e3) (Rp.bl _)⟩
end
end PD
/-! Pure data: statements, loops, comprehensions, calls, dicts. -/
namespace PD
open PySem PySem.Spec PyProof.Rows L2
section
variable {K : PySem.W.Frag} {M : Addr → Prop} {H H' : Hp}
variable {te ta tb tc : TE} {tt tu : TT} {tl : TA} {τ τ' : Tau} {d e f : D} {ds : List D} {nx : Tau → Prop} {rt : D → Prop} {P : D → Prop}

/-! ### statements -/
def WD (K : PySem.W.Frag) (M : Addr → Prop) (ts : TS) (nx : Tau → Prop) (rt : D → Prop) (τ : Tau) : Prop := ∀ (En : Ends) σ H, Rel K M H σ τ →
  (∀ σ' H' τ', Le0 H H' → Rel K M H' σ' τ' → nx τ' → En.nx σ' H') → (∀ v H' d, Le0 H H' → Rp K M H' d v → rt d → En.rt v H') → ts En σ H
theorem WD.mono {ts : TS} {nx' : Tau → Prop} {rt' : D → Prop} (h : WD K M ts nx rt τ) (a : ∀ t, nx t → nx' t) (b : ∀ d, rt d → rt' d) : WD K M ts nx' rt' τ := fun En σ H r kn kr =>
  h En σ H r (fun σ' H' τ' l r' n => kn σ' H' τ' l r' (a _ n)) fun v H' d l p n => kr v H' d l p (b _ n)
theorem wd_seq {t1 t2 : TS} (h : WD K M t1 (fun τ1 => WD K M t2 nx rt τ1) rt τ) : WD K M (tSeq t1 t2) nx rt τ := fun En σ H r kn kr =>
  h { En with nx := t2 En } σ H r (fun σ' H' τ' l r' w => w En σ' H' r' (fun σ2 H2 τ2 l2 r2 n => kn σ2 H2 τ2 (l.trans l2) r2 n) fun v H2 d l2 p n => kr v H2 d (l.trans l2) p n) kr
theorem wd_next (h : nx τ) : WD K M tNext nx rt τ := fun En σ H r kn _ => kn σ H τ (Le.refl _ _) r h
theorem wd_never (h : False) : WD K M tNever nx rt τ := h.elim
theorem wd_asg {i : Nat} (h : EvD K M te τ d) (k : nx (τ.set i (some d))) : WD K M (tAsg te (gName i)) nx rt τ := fun En σ H r kn _ =>
  h σ H r _ fun v H1 e1 p1 => kn _ H1 _ e1 ((r.mono e1).set i p1) k
theorem wd_asgP {i : Nat} (h : EvP K M te τ P) (k : ∀ d, P d → nx (τ.set i (some d))) : WD K M (tAsg te (gName i)) nx rt τ := fun En σ H r kn _ =>
  h σ H r _ fun v H1 d e1 p1 hp => kn _ H1 _ e1 ((r.mono e1).set i p1) (k d hp)
theorem wd_ret (h : EvD K M te τ d) (k : rt d) : WD K M (tRet te) nx rt τ := fun En σ H r _ kr => h σ H r _ fun v H1 e1 p1 => kr v H1 d e1 p1 k
theorem wd_retP (h : EvP K M te τ P) (k : ∀ d, P d → rt d) : WD K M (tRet te) nx rt τ := fun En σ H r _ kr => h σ H r _ fun v H1 d e1 p1 hp => kr v H1 d e1 p1 (k d hp)
theorem wd_if {t1 t2 : TS} {b : Bool} (h : EtD K M tt τ b) (h1 : b = true → WD K M t1 nx rt τ) (h2 : b = false → WD K M t2 nx rt τ) : WD K M (tIfS tt t1 t2) nx rt τ := fun En σ H r kn kr =>
  h σ H r _ fun H1 e1 => by
    cases b with
    | true =>
      show t1 En σ H1
      exact h1 rfl En σ H1 (r.mono e1) (fun σ' H' τ' l r' n => kn σ' H' τ' (e1.trans l) r' n) fun v H' d l p n => kr v H' d (e1.trans l) p n
    | false =>
      show t2 En σ H1
      exact h2 rfl En σ H1 (r.mono e1) (fun σ' H' τ' l r' n => kn σ' H' τ' (e1.trans l) r' n) fun v H' d l p n => kr v H' d (e1.trans l) p n
theorem wd_drop (h : EvD K M te τ d) (k : nx τ) : WD K M (tDrop te) nx rt τ := fun En σ H r kn _ => h σ H r _ fun v H1 e1 p1 => kn σ H1 τ e1 (r.mono e1) k
theorem wd_dropP (h : EvP K M te τ P) (k : ∀ d, P d → nx τ) : WD K M (tDrop te) nx rt τ := fun En σ H r kn _ => h σ H r _ fun v H1 d e1 p1 hp => kn σ H1 τ e1 (r.mono e1) (k d hp)
theorem wd_par {i j : Nat} (h : EaD K M tl τ [d, e]) (k : nx ((τ.set i (some d)).set j (some e))) : WD K M (tPar i j tl) nx rt τ := fun En σ H r kn _ =>
  h σ H r _ fun vs H1 e1 p1 => by
    obtain ⟨v, r1, rfl, q1, t1⟩ := p1.inv
    obtain ⟨w, r2, rfl, q2, t2⟩ := t1.inv
    rw [t2.inv0]
    exact ⟨v, w, rfl, kn _ H1 _ e1 (((r.mono e1).set i q1).set j q2) k⟩
theorem wd_par3 {i j l : Nat} (h : EaD K M tl τ [d, e, f]) (k : nx (((τ.set i (some d)).set j (some e)).set l (some f))) : WD K M (tPar3 i j l tl) nx rt τ := fun En σ H r kn _ =>
  h σ H r _ fun vs H1 e1 p1 => by
    obtain ⟨v, r1, rfl, q1, t1⟩ := p1.inv
    obtain ⟨w, r2, rfl, q2, t2⟩ := t1.inv
    obtain ⟨x, r3, rfl, q3, t3⟩ := t2.inv
    rw [t3.inv0]
    exact ⟨v, w, x, rfl, kn _ H1 _ e1 ((((r.mono e1).set i q1).set j q2).set l q3) k⟩
/-! ### targets -/
def GD (K : PySem.W.Frag) (M : Addr → Prop) (g : TG) (d : D) (τ τ' : Tau) : Prop := ∀ v σ H, Rel K M H σ τ → Rp K M H d v → ∀ Q : L2.St → Hp → Prop, (∀ σ', Rel K M H σ' τ' → Q σ' H) → g v σ H Q
def GsD (K : PySem.W.Frag) (M : Addr → Prop) (g : TGs) (ds : List D) (τ τ' : Tau) : Prop := ∀ vs σ H, Rel K M H σ τ → RpL K M H ds vs → ∀ Q : L2.St → Hp → Prop, (∀ σ', Rel K M H σ' τ' → Q σ' H) → g vs σ H Q
theorem gd_name {i : Nat} : GD K M (gName i) d τ (τ.set i (some d)) := fun v σ H r p Q q => q _ (r.set i p)
theorem gs_nil : GsD K M gNil [] τ τ := fun vs σ H r p Q q => ⟨p.inv0, q _ r⟩
theorem gs_cons {g : TG} {gs : TGs} {τ1 τ2 : Tau} (h : GD K M g d τ τ1) (t : GsD K M gs ds τ1 τ2) : GsD K M (gCons g gs) (d :: ds) τ τ2 := fun vs σ H r p Q q => by
  obtain ⟨v, rr, rfl, p1, p2⟩ := p.inv
  exact ⟨v, rr, rfl, h v σ H r p1 _ fun σ1 r1 => t rr σ1 H r1 p2 Q q⟩
theorem gd_tup {gs : TGs} {n : Nat} (h : GsD K M gs ds τ τ') (hn : ds.length = n) : GD K M (gTup K n gs) (.tup ds) τ τ' := fun v σ H r p Q q => by
  obtain ⟨a, vs, rfl, _, h3, h4⟩ := p.tup_inv
  exact ⟨a, vs, rfl, .inl (.inl h3), by rw [h4.len]; exact hn, h vs σ H r h4 Q q⟩
theorem wd_asgG {g : TG} (h : EvD K M te τ d) (hg : GD K M g d τ τ') (k : nx τ') : WD K M (tAsg te g) nx rt τ := fun En σ H r kn _ =>
  h σ H r _ fun v H1 e1 p1 => hg v σ H1 (r.mono e1) p1 _ fun σ' r' => kn σ' H1 τ' e1 r' k
theorem wd_asgGP {g : TG} (h : EvP K M te τ P) (hg : ∀ d, P d → ∃ τ', GD K M g d τ τ' ∧ nx τ') : WD K M (tAsg te g) nx rt τ := fun En σ H r kn _ =>
  h σ H r _ fun v H1 d e1 p1 hp => by
    obtain ⟨τ', h1, h2⟩ := hg d hp
    exact h1 v σ H1 (r.mono e1) p1 _ fun σ' r' => kn σ' H1 τ' e1 r' h2
/-! written tuples -/
def fromP : PyData → D
  | .none => .non
  | .bool b => .bl b
  | .int i => .int i
  | .str s => .str s
  | .tuple ps => .con ps
  | _ => .non
def okP : PyData → Bool
  | .list _ => false
  | .dict _ => false
  | _ => true
theorem con_items {vs : List V} : ∀ {ps : List PyData}, DpAll K (fun _ => none) vs ps → ps.all okP = true → RpL K M H (ps.map fromP) vs := by
  intro ps
  induction ps generalizing vs with
  | nil => intro h _; cases h; exact RpL.nil
  | cons p ps ih =>
    intro h n
    cases h with
    | cons h t =>
      rw [List.all_cons, Bool.and_eq_true] at n
      refine RpL.cons ?_ (ih t n.2)
      cases h with
      | non => exact Rp.non
      | bl b => exact Rp.bl b
      | int i => exact Rp.int i
      | str x => exact Rp.str x
      | lst _ _ => cases n.1
      | tup s t => show Rp K M H (.con _) _; unfold Rp; exact .tup s t
theorem con_inv {ps : List PyData} {v : V} (h : Rp K M H (.con ps) v) (n : ps.all okP = true) : ∃ a vs, v = .ref a ∧ (∀ H1 : Hp, SqT K H1 a vs) ∧ RpL K M H (ps.map fromP) vs := by
  unfold Rp at h
  cases h with
  | tup s t =>
    refine ⟨_, _, rfl, fun H1 => ?_, con_items t n⟩
    rcases s with (s | ⟨o, s⟩) | s
    · cases s
    · cases s
    · exact .inr s
theorem gd_con {gs : TGs} {n : Nat} {ps : List PyData} (h : GsD K M gs (ps.map fromP) τ τ') (hn : ps.length = n) (ok : ps.all okP = true) : GD K M (gTup K n gs) (.con ps) τ τ' := fun v σ H r p Q q => by
  obtain ⟨a, vs, rfl, h3, h4⟩ := con_inv p ok
  exact ⟨a, vs, rfl, h3 H, by rw [h4.len, List.length_map]; exact hn, h vs σ H r h4 Q q⟩
theorem rv_ixC {ps : List PyData} {i : Int} (ok : ps.all okP = true) (h : L2.atI (ps.map fromP) i = some d) : RvD K M (rIxT K) (.con ps) (.int i) d := fun x y H _ hx hy Q q => by
  obtain ⟨a, vs, h1, h3, h4⟩ := con_inv hx ok
  obtain ⟨v, g1, g2⟩ := h4.atI h
  exact ⟨a, vs, i, v, h1, hy.int_inv, h3 H, g1, q v H (Le.refl _ _) g2⟩
/-! ### loops -/
theorem wd_forT {g : TG} {body : TS} {xs : List D} {tl' : TE} (h : EvD K M tl' τ (.tup xs)) (I : Nat → Tau → Prop) (h0 : I 0 τ)
    (hs : ∀ i x τ1, xs[i]? = some x → I i τ1 → ∃ τ2, GD K M g x τ1 τ2 ∧ WD K M body (I (i + 1)) rt τ2) (hd : ∀ τ1, I xs.length τ1 → nx τ1) : WD K M (tFor (iTup K tl') g body) nx rt τ := fun En σ H r kn kr =>
  h σ H r _ fun v H1 e1 p1 => by
    obtain ⟨a, vs, rfl, n1, h3, h4⟩ := p1.tup_inv
    refine ⟨a, rfl, ⟨vs, .inl (.inl h3)⟩, for_tup (xs := vs) (fun i σ' H' => ∃ τ1, Le0 H1 H' ∧ Rel K M H' σ' τ1 ∧ I i τ1) ⟨τ, Le.refl _ _, r.mono e1, h0⟩ ?_ ?_ ?_⟩
    · rintro i σ' H' _ ⟨τ1, l, _, _⟩
      exact .inl (.inl (l a _ (fun z => z) h3))
    · rintro i x σ' H' hx ⟨τ1, l, r1, hi⟩
      have hl : i < xs.length := by
        have := (List.getElem?_eq_some_iff.mp hx).1
        rw [h4.len] at this
        exact this
      obtain ⟨τ2, hg, hw⟩ := hs i xs[i] τ1 (List.getElem?_eq_getElem hl) hi
      obtain ⟨v, hv, pv⟩ := h4.get (List.getElem?_eq_getElem hl)
      rw [hx] at hv
      cases hv
      refine hg x σ' H' r1 (pv.mono l.of0) _ fun σ2 r2 => ?_
      refine hw _ σ2 H' r2 (fun σ3 H3 τ3 l3 r3 i3 => ⟨τ3, l.trans l3, r3, i3⟩) fun v3 H3 d3 l3 p3 q3 => kr v3 H3 d3 (e1.trans (l.trans l3)) p3 q3
    · rintro σ' H' ⟨τ1, l, r1, hi⟩
      rw [h4.len] at hi
      exact kn σ' H' τ1 (e1.trans l) r1 (hd τ1 hi)
theorem wd_forL {g : TG} {body : TS} {xs : List D} {tl' : TE} (h : EvD K M tl' τ (.lst xs)) (I : Nat → Tau → Prop) (h0 : I 0 τ)
    (hs : ∀ i x τ1, xs[i]? = some x → I i τ1 → ∃ τ2, GD K M g x τ1 τ2 ∧ WD K M body (I (i + 1)) rt τ2) (hd : ∀ τ1, I xs.length τ1 → nx τ1) : WD K M (tFor (iList K tl') g body) nx rt τ := fun En σ H r kn kr =>
  h σ H r _ fun v H1 e1 p1 => by
    obtain ⟨a, vs, rfl, n1, h3, h4⟩ := p1.lst_inv
    refine ⟨a, rfl, ⟨vs, .inl (.inl h3)⟩, for_list (xs := vs) (fun i σ' H' => ∃ τ1, Le0 H1 H' ∧ Rel K M H' σ' τ1 ∧ I i τ1) ⟨τ, Le.refl _ _, r.mono e1, h0⟩ ?_ ?_ ?_⟩
    · rintro i σ' H' _ ⟨τ1, l, _, _⟩
      exact .inl (.inl (l a _ (fun z => z) h3))
    · rintro i x σ' H' hx ⟨τ1, l, r1, hi⟩
      have hl : i < xs.length := by
        have := (List.getElem?_eq_some_iff.mp hx).1
        rw [h4.len] at this
        exact this
      obtain ⟨τ2, hg, hw⟩ := hs i xs[i] τ1 (List.getElem?_eq_getElem hl) hi
      obtain ⟨v, hv, pv⟩ := h4.get (List.getElem?_eq_getElem hl)
      rw [hx] at hv
      cases hv
      refine hg x σ' H' r1 (pv.mono l.of0) _ fun σ2 r2 => ?_
      refine hw _ σ2 H' r2 (fun σ3 H3 τ3 l3 r3 i3 => ⟨τ3, l.trans l3, r3, i3⟩) fun v3 H3 d3 l3 p3 q3 => kr v3 H3 d3 (e1.trans (l.trans l3)) p3 q3
    · rintro σ' H' ⟨τ1, l, r1, hi⟩
      rw [h4.len] at hi
      exact kn σ' H' τ1 (e1.trans l) r1 (hd τ1 hi)
theorem wd_range {j : Nat} {body : TS} {n : Nat} (hn : n ≤ 100000) (h : EaD K M tl τ [.int (n : Int)]) (I : Nat → Tau → Prop) (h0 : I 0 τ)
    (hs : ∀ i τ1, i < n → I i τ1 → WD K M body (I (i + 1)) rt (τ1.set j (some (.int (i : Int))))) (hd : ∀ τ1, I n τ1 → nx τ1) : WD K M (tFor (iRng1 tl) (gName j) body) nx rt τ := fun En σ H r kn kr =>
  h σ H r _ fun vs H1 e1 p1 => by
    obtain ⟨v, r1, rfl, q1, t1⟩ := p1.inv
    rw [t1.inv0, q1.int_inv]
    have e0 : ((n : Int)).toNat = n := Int.toNat_natCast n
    refine ⟨(n : Int), rfl, by omega, by omega, ?_⟩
    rw [e0]
    refine for_range (lo := 0) (n := n) (fun i σ' H' => ∃ τ1, Le0 H1 H' ∧ Rel K M H' σ' τ1 ∧ I i τ1) ⟨τ, Le.refl _ _, r.mono e1, h0⟩ ?_ ?_
    · rintro i σ' H' hl ⟨τ1, l, r1, hi⟩
      have e0 : (0 : Int) + (i : Int) = (i : Int) := Int.zero_add _
      show body _ (σ'.set j (some (.int ((0 : Int) + (i : Int))))) H'
      rw [e0]
      exact hs i τ1 hl hi _ _ H' (r1.set j (Rp.int _)) (fun σ3 H3 τ3 l3 r3 i3 => ⟨τ3, l.trans l3, r3, i3⟩) fun v3 H3 d3 l3 p3 q3 => kr v3 H3 d3 (e1.trans (l.trans l3)) p3 q3
    · rintro σ' H' ⟨τ1, l, r1, hi⟩
      exact kn σ' H' τ1 (e1.trans l) r1 (hd τ1 hi)
theorem wd_while {body : TS} (I : Nat → Tau → Prop) (m0 : Nat) (h0 : I m0 τ)
    (hs : ∀ m τ1, I m τ1 → ∃ b, EtD K M tt τ1 b ∧ (b = true → WD K M body (fun τ2 => ∃ m', m' < m ∧ I m' τ2) rt τ1) ∧ (b = false → nx τ1)) : WD K M (tWhile tt body) nx rt τ := fun En σ H r kn kr =>
  ⟨fun m σ' H' => ∃ τ1, Le0 H H' ∧ Rel K M H' σ' τ1 ∧ I m τ1, ⟨m0, τ, Le.refl _ _, r, h0⟩, by
    rintro m σ' H' ⟨τ1, l, r1, hi⟩
    obtain ⟨b, hb, h1, h2⟩ := hs m τ1 hi
    refine hb σ' H' r1 _ fun H2 e2 => ?_
    cases b with
    | true =>
      refine ⟨fun σ3 H3 => ∃ τ3, Le0 H H3 ∧ Rel K M H3 σ3 τ3 ∧ ∃ m', m' < m ∧ I m' τ3, fun σ3 H3 ⟨τ3, l3, r3, m', hm, i3⟩ => ⟨m', hm, τ3, l3, r3, i3⟩, ?_⟩
      exact h1 rfl _ σ' H2 (r1.mono e2) (fun σ3 H3 τ3 l3 r3 i3 => ⟨τ3, l.trans (e2.trans l3), r3, i3⟩) fun v3 H3 d3 l3 p3 q3 => kr v3 H3 d3 (l.trans (e2.trans l3)) p3 q3
    | false => exact kn σ' H2 τ1 (l.trans e2) (r1.mono e2) (h2 rfl)⟩
/-! ### comprehensions -/
theorem wipe1 (σ : L2.St) (j : Nat) (x : Option V) : wipe ((wipe σ [j]).set j x) [j] = wipe σ [j] := by
  show ((σ.set j none).set j x).set j none = σ.set j none
  rw [List.set_set, List.set_set]
theorem take_filter_yes {xs : List D} {p : D → Bool} {h : D → D} {i : Nat} {x : D} (hx : xs[i]? = some x) (hp : p x = true) : ((xs.take (i + 1)).filter p).map h = ((xs.take i).filter p).map h ++ [h x] := by
  rw [List.take_add_one, hx]
  show ((xs.take i ++ [x]).filter p).map h = _
  rw [List.filter_append, List.map_append]
  show _ ++ ([x].filter p).map h = _
  rw [List.filter_cons, if_pos hp] <;> rfl
theorem take_filter_no {xs : List D} {p : D → Bool} {h : D → D} {i : Nat} {x : D} (hx : xs[i]? = some x) (hp : p x = false) : ((xs.take (i + 1)).filter p).map h = ((xs.take i).filter p).map h := by
  rw [List.take_add_one, hx]
  show ((xs.take i ++ [x]).filter p).map h = _
  rw [List.filter_append, List.map_append]
  show _ ++ ([x].filter p).map h = _
  rw [List.filter_cons, if_neg (by rw [hp]; decide)]
  exact List.append_nil _
theorem Rel.add {σ : L2.St} {p : Addr} {o : HO} (r : Rel K M H σ τ) (hp : H p = none) : Rel K (fun a => M a ∨ a = p) (upd H p o) σ τ :=
  ⟨fun a m => m.elim (fun m => (Le.new (o := o) hp).there (r.tr a m)) (fun m => by rw [m, upd_same]; intro z; cases z), r.len, fun i d q => by
    obtain ⟨v, h1, h2⟩ := r.at_ i d q
    exact ⟨v, h1, (Rp.add hp h2).mono (Le.new hp).of0⟩⟩
/-- the places of M are written, the rest stands -/
theorem Rel.put {σ : L2.St} {p : Addr} {o : HO} (r : Rel K M H σ τ) (hp : M p) : Rel K M (upd H p o) σ τ :=
  ⟨fun a m => (Classical.em (a = p)).elim (fun e => by rw [e, upd_same]; intro z; cases z) (fun e => by rw [upd_ne e]; exact r.tr a m), r.len, fun i d q => by
    obtain ⟨v, h1, h2⟩ := r.at_ i d q
    exact ⟨v, h1, h2.mono fun a u n h => by rw [upd_ne (fun e => n (by rw [e]; exact hp))]; exact h⟩⟩
theorem Le.put {H0 : Hp} {p : Addr} {o : HO} (l : Le0 H0 H) (hp : H0 p = none) : Le0 H0 (upd H p o) := fun a u n h => by
  rw [upd_ne (ne_of_none h hp)]; exact l a u n h
theorem Rel.weak {σ : L2.St} {M' : Addr → Prop} (w : ∀ a, M' a → M a) (r : Rel K M H σ τ) : Rel K M' H σ τ :=
  ⟨fun a m => r.tr a (w a m), r.len, fun i d q => by
    obtain ⟨v, h1, h2⟩ := r.at_ i d q
    exact ⟨v, h1, Rp.weak w h2⟩⟩
section
variable {xs : List D} {j : Nat} {src : TE}
/-- one turn of a comprehension whose list lies at Dl -/
theorem lc_turn {Dl : Addr} {H1 : Hp} {σ : L2.St} {i : Nat} {x : D} {v : V} (p : D → Bool) (h : D → D) (hx : xs[i]? = some x) (hz : xs.length ≤ 100000) (nd : H1 Dl = none)
    (ht : ∀ M, EtD K M tt ((wipeT τ [j]).set j (some x)) (p x)) (he : p x = true → ∀ M, EvD K M te ((wipeT τ [j]).set j (some x)) (h x))
    (q : Le0 H1 H ∧ Rel K (fun a => M a ∨ a = Dl) H σ τ ∧ ∃ acc, H Dl = some (.lst acc) ∧ RpL K (fun a => M a ∨ a = Dl) H (((xs.take i).filter p).map h) acc) (hv : Rp K (fun a => M a ∨ a = Dl) H x v) :
    gName j v (wipe σ [j]) H fun σ2 H2 => wipe σ2 [j] = wipe σ [j] ∧ tt σ2 H2 fun b H3 => if b = true then te σ2 H3 fun y H4 => ∃ acc, H4 Dl = some (.lst acc) ∧ acc.length < sizeLine ∧
      (fun H => Le0 H1 H ∧ Rel K (fun a => M a ∨ a = Dl) H σ τ ∧ ∃ acc, H Dl = some (.lst acc) ∧ RpL K (fun a => M a ∨ a = Dl) H (((xs.take (i + 1)).filter p).map h) acc) (upd H4 Dl (.lst (acc ++ [y])))
      else (fun H => Le0 H1 H ∧ Rel K (fun a => M a ∨ a = Dl) H σ τ ∧ ∃ acc, H Dl = some (.lst acc) ∧ RpL K (fun a => M a ∨ a = Dl) H (((xs.take (i + 1)).filter p).map h) acc) H3 := by
  obtain ⟨q1, q2, acc, q3, q4⟩ := q
  refine ⟨wipe1 σ j _, ht _ _ H ((q2.wipe [j]).set j hv) _ fun H3 e3 => ?_⟩
  cases hp : p x with
  | true =>
    show te _ H3 _
    refine he hp _ _ H3 (((q2.wipe [j]).set j hv).mono e3) _ fun y H4 e4 py => ?_
    have e34 := e3.trans e4
    have m4 : RpL K (fun a => M a ∨ a = Dl) (upd H4 Dl (.lst (acc ++ [y]))) (((xs.take (i + 1)).filter p).map h) (acc ++ [y]) := by
      rw [take_filter_yes hx hp]
      have a4 : RpL K (fun a => M a ∨ a = Dl) H4 (((xs.take i).filter p).map h ++ [h x]) (acc ++ [y]) := (q4.mono e34.of0).append (RpL.cons py RpL.nil)
      exact a4.mono fun a u n hh => by
        rw [upd_ne (fun e => n (Or.inr e))]; exact hh
    refine ⟨acc, e34 Dl _ (fun z => z) q3, ?_, Le.put (q1.trans e34) nd, (q2.mono e34).put (.inr rfl), acc ++ [y], upd_same, m4⟩
    have l1 := q4.len
    have l2 : (((xs.take i).filter p).map h).length ≤ xs.length := by
      rw [List.length_map]
      exact Nat.le_trans (List.length_filter_le _ _) (by rw [List.length_take]; omega)
    exact Nat.lt_of_le_of_lt (by omega : acc.length ≤ 100000) (by decide)
  | false =>
    show _ ∧ _
    rw [take_filter_no hx hp]
    exact ⟨q1.trans e3, q2.mono e3, acc, e3 Dl _ (fun z => z) q3, q4.mono e3.of0⟩
theorem ed_lcT (p : D → Bool) (h : D → D) (hsrc : EvD K M src τ (.tup xs)) (hz : xs.length ≤ 100000)
    (ht : ∀ x, x ∈ xs → ∀ M, EtD K M tt ((wipeT τ [j]).set j (some x)) (p x)) (he : ∀ x, x ∈ xs → p x = true → ∀ M, EvD K M te ((wipeT τ [j]).set j (some x)) (h x)) :
    EvD K M (tLc (iTup K src) (gName j) tt te [j]) τ (.lst ((xs.filter p).map h)) := fun σ H r Q q =>
  hsrc σ H r _ fun v H1 e1 p1 => by
    obtain ⟨a, vs, rfl, n1, h3, h4⟩ := p1.tup_inv
    refine ⟨a, rfl, ⟨vs, .inl (.inl h3)⟩, fun Dl hD => ?_⟩
    have r1 := r.mono e1
    have h4' : RpL K (fun a => M a ∨ a = Dl) H1 xs vs := RpL.add hD h4
    refine lc_tup (xs := vs) (fun i H' => Le0 H1 H' ∧ Rel K (fun a => M a ∨ a = Dl) H' σ τ ∧ ∃ acc, H' Dl = some (.lst acc) ∧ RpL K (fun a => M a ∨ a = Dl) H' (((xs.take i).filter p).map h) acc)
      ⟨Le.new hD, r1.add hD, [], upd_same, by simpa using RpL.nil⟩ (fun i H' _ z => .inl (.inl (z.1 a _ (fun z => z) h3))) (fun i x H' hx z => ?_) (fun H' z => ?_)
    · have hl : i < xs.length := by
        have := (List.getElem?_eq_some_iff.mp hx).1
        rw [h4.len] at this
        exact this
      obtain ⟨v, hv, pv⟩ := h4'.get (List.getElem?_eq_getElem hl)
      rw [hx] at hv
      cases hv
      exact lc_turn p h (List.getElem?_eq_getElem hl) hz hD (ht _ (List.getElem_mem hl)) (he _ (List.getElem_mem hl)) z (pv.mono z.1.of0)
    · obtain ⟨z1, z2, acc, z3, z4⟩ := z
      rw [h4.len, List.take_length] at z4
      exact q _ H' (e1.trans z1) (Rp.lst (fun m => r1.tr Dl m hD) z3 (RpL.weak (fun _ m => .inl m) z4))
theorem ed_lcL (p : D → Bool) (h : D → D) (hsrc : EvD K M src τ (.lst xs)) (hz : xs.length ≤ 100000)
    (ht : ∀ x, x ∈ xs → ∀ M, EtD K M tt ((wipeT τ [j]).set j (some x)) (p x)) (he : ∀ x, x ∈ xs → p x = true → ∀ M, EvD K M te ((wipeT τ [j]).set j (some x)) (h x)) :
    EvD K M (tLc (iList K src) (gName j) tt te [j]) τ (.lst ((xs.filter p).map h)) := fun σ H r Q q =>
  hsrc σ H r _ fun v H1 e1 p1 => by
    obtain ⟨a, vs, rfl, n1, h3, h4⟩ := p1.lst_inv
    refine ⟨a, rfl, ⟨vs, .inl (.inl h3)⟩, fun Dl hD => ?_⟩
    have r1 := r.mono e1
    have h4' : RpL K (fun a => M a ∨ a = Dl) H1 xs vs := RpL.add hD h4
    refine lc_list (xs := vs) (fun i H' => Le0 H1 H' ∧ Rel K (fun a => M a ∨ a = Dl) H' σ τ ∧ ∃ acc, H' Dl = some (.lst acc) ∧ RpL K (fun a => M a ∨ a = Dl) H' (((xs.take i).filter p).map h) acc)
      ⟨Le.new hD, r1.add hD, [], upd_same, by simpa using RpL.nil⟩ (fun i H' _ z => .inl (.inl (z.1 a _ (fun z => z) h3))) (fun i x H' hx z => ?_) (fun H' z => ?_)
    · have hl : i < xs.length := by
        have := (List.getElem?_eq_some_iff.mp hx).1
        rw [h4.len] at this
        exact this
      obtain ⟨v, hv, pv⟩ := h4'.get (List.getElem?_eq_getElem hl)
      rw [hx] at hv
      cases hv
      exact lc_turn p h (List.getElem?_eq_getElem hl) hz hD (ht _ (List.getElem_mem hl)) (he _ (List.getElem_mem hl)) z (pv.mono z.1.of0)
    · obtain ⟨z1, z2, acc, z3, z4⟩ := z
      rw [h4.len, List.take_length] at z4
      exact q _ H' (e1.trans z1) (Rp.lst (fun m => r1.tr Dl m hD) z3 (RpL.weak (fun _ m => .inl m) z4))
end
theorem filter_yes (xs : List D) : xs.filter (fun _ => true) = xs := List.filter_eq_self.mpr fun _ _ => rfl

/-! ### dicts -/
def kD : Key → D
  | .inl i => .int i
  | .inr s => .str s
def keyD (k : List Key) : D := .tup (k.map kD)
theorem kD_inv {k : Key} {v : V} (h : Rp K M H (kD k) v) : v = kV k := by
  cases k with
  | inl i => exact h.int_inv
  | inr s => exact h.str_inv
theorem kDs_inv : ∀ {k : List Key} {vs : List V}, RpL K M H (k.map kD) vs → vs = k.map kV
  | [], _, h => h.inv0
  | _ :: ks, _, h => by
    obtain ⟨v, r, rfl, q, t⟩ := h.inv
    rw [kD_inv q, kDs_inv t]
    rfl
theorem keyD_inv {k : List Key} {v : V} (h : Rp K M H (keyD k) v) : ∃ b, v = .ref b ∧ H b = some (.tup (k.map kV)) := by
  obtain ⟨a, vs, rfl, _, h3, h4⟩ := h.tup_inv
  rw [kDs_inv h4] at h3
  exact ⟨a, rfl, h3⟩
def lookK {κ : Type} [DecidableEq κ] : List κ → List D → κ → Option D
  | k :: ks, d :: ds, j => if k = j then some d else lookK ks ds j
  | _, _, _ => none
theorem look_val {κ : Type} [DecidableEq κ] : ∀ {ws : List (κ × V)} {ds : List D} (k : κ), RpL K M H ds (ws.map (·.2)) → (∀ d, lookK (ws.map (·.1)) ds k = some d → ∃ v, valV ws k = some v ∧ Rp K M H d v) ∧ (lookK (ws.map (·.1)) ds k = none → valV ws k = none)
  | [], ds, k, h => by
    refine ⟨fun d e => ?_, fun _ => rfl⟩
    simp [lookK] at e
  | w :: ws, [], k, h => by
    have := h.inv0
    cases this
  | w :: ws, d0 :: ds, k, h => by
    obtain ⟨v, r, e1, q, t⟩ := h.inv
    rw [List.map_cons] at e1
    injection e1 with e2 e3
    subst e3
    have ih := look_val (ws := ws) (ds := ds) k t
    rw [List.map_cons]
    unfold lookK
    by_cases e : w.1 = k
    · rw [if_pos e, valV_pos e]
      exact ⟨fun d z => by cases z; exact ⟨w.2, rfl, e2 ▸ q⟩, fun z => nomatch z⟩
    · rw [if_neg e, valV_neg e]
      exact ih
theorem ed_dgetT {ks : List (List Key)} {k : List Key} (h1 : EvD K M ta τ (.dt ks ds)) (h2 : EvD K M tb τ (keyD k)) (hk : lookK ks ds k = some d) : EvD K M (tDGet ta tb) τ d := fun σ H r Q q =>
  h1 σ H r _ fun v H1 e1 p1 => h2 σ H1 (r.mono e1) _ fun w H2 e2 p2 => by
    obtain ⟨a, ws, rfl, _, h3, rfl, h5⟩ := (p1.mono e2.of0).dt_inv
    obtain ⟨b, rfl, hb⟩ := keyD_inv p2
    obtain ⟨v, hv, pv⟩ := (look_val k h5).1 d hk
    exact ⟨a, v, rfl, hv ▸ DGet.t h3 hb, q v H2 (e1.trans e2) pv⟩
theorem ed_dgetK {ks : List Key} {k : Key} (h1 : EvD K M ta τ (.dk ks ds)) (h2 : EvD K M tb τ (kD k)) (hk : lookK ks ds k = some d) : EvD K M (tDGet ta tb) τ d := fun σ H r Q q =>
  h1 σ H r _ fun v H1 e1 p1 => h2 σ H1 (r.mono e1) _ fun w H2 e2 p2 => by
    obtain ⟨a, ws, rfl, _, h3, rfl, h5⟩ := (p1.mono e2.of0).dk_inv
    obtain rfl := kD_inv p2
    obtain ⟨v, hv, pv⟩ := (look_val k h5).1 d hk
    exact ⟨a, v, rfl, hv ▸ DGet.k h3, q v H2 (e1.trans e2) pv⟩
theorem ed_dgetZ {ks : List Key} {k : Key} (h1 : EvD K M ta τ (.dkz ks ds)) (h2 : EvD K M tb τ (kD k)) (hk : lookK ks ds k = some d) : EvD K M (tDGet ta tb) τ d := fun σ H r Q q =>
  h1 σ H r _ fun v H1 e1 p1 => h2 σ H1 (r.mono e1) _ fun w H2 e2 p2 => by
    have pz := p1.mono e2.of0
    unfold Rp at pz
    obtain ⟨a, ws, rfl, _, h3, rfl, h5⟩ := pz
    obtain rfl := kD_inv p2
    obtain ⟨v, hv, pv⟩ := (look_val k h5).1 d hk
    exact ⟨a, v, rfl, hv ▸ .inl ⟨ws, k, h3, rfl, rfl⟩, q v H2 (e1.trans e2) pv⟩
theorem look_some {κ : Type} [DecidableEq κ] {ws : List (κ × V)} {ds : List D} (k : κ) (h : RpL K M H ds (ws.map (·.2))) : (lookK (ws.map (·.1)) ds k).isSome = (valV ws k).isSome := by
  cases q : lookK (ws.map (·.1)) ds k with
  | none => rw [(look_val k h).2 q]; rfl
  | some d =>
    obtain ⟨v, hv, _⟩ := (look_val k h).1 d q
    rw [hv]; rfl
theorem ed_dinT {ks : List (List Key)} {k : List Key} (h2 : EvD K M tb τ (keyD k)) (h1 : EvD K M ta τ (.dt ks ds)) : EvD K M (tDIn tb ta) τ (.bl (lookK ks ds k).isSome) := fun σ H r Q q =>
  h2 σ H r _ fun w H1 e1 p1 => h1 σ H1 (r.mono e1) _ fun v H2 e2 p2 => by
    obtain ⟨a, ws, rfl, _, h3, rfl, h5⟩ := p2.dt_inv
    obtain ⟨b, rfl, hb⟩ := keyD_inv (p1.mono e2.of0)
    refine ⟨a, valV ws k, rfl, DGet.t h3 hb, q _ H2 (e1.trans e2) ?_⟩
    rw [look_some k h5]
    exact Rp.bl _
theorem ed_dninT {ks : List (List Key)} {k : List Key} (h2 : EvD K M tb τ (keyD k)) (h1 : EvD K M ta τ (.dt ks ds)) : EvD K M (tDNotIn tb ta) τ (.bl (!(lookK ks ds k).isSome)) := fun σ H r Q q =>
  h2 σ H r _ fun w H1 e1 p1 => h1 σ H1 (r.mono e1) _ fun v H2 e2 p2 => by
    obtain ⟨a, ws, rfl, _, h3, rfl, h5⟩ := p2.dt_inv
    obtain ⟨b, rfl, hb⟩ := keyD_inv (p1.mono e2.of0)
    refine ⟨a, valV ws k, rfl, DGet.t h3 hb, q _ H2 (e1.trans e2) ?_⟩
    rw [look_some k h5]
    exact Rp.bl _
theorem ed_dinK {ks : List Key} {k : Key} (h2 : EvD K M tb τ (kD k)) (h1 : EvD K M ta τ (.dk ks ds)) : EvD K M (tDIn tb ta) τ (.bl (lookK ks ds k).isSome) := fun σ H r Q q =>
  h2 σ H r _ fun w H1 e1 p1 => h1 σ H1 (r.mono e1) _ fun v H2 e2 p2 => by
    obtain ⟨a, ws, rfl, _, h3, rfl, h5⟩ := p2.dk_inv
    obtain rfl := kD_inv (p1.mono e2.of0)
    refine ⟨a, valV ws k, rfl, DGet.k h3, q _ H2 (e1.trans e2) ?_⟩
    rw [look_some k h5]
    exact Rp.bl _
theorem ed_dninK {ks : List Key} {k : Key} (h2 : EvD K M tb τ (kD k)) (h1 : EvD K M ta τ (.dk ks ds)) : EvD K M (tDNotIn tb ta) τ (.bl (!(lookK ks ds k).isSome)) := fun σ H r Q q =>
  h2 σ H r _ fun w H1 e1 p1 => h1 σ H1 (r.mono e1) _ fun v H2 e2 p2 => by
    obtain ⟨a, ws, rfl, _, h3, rfl, h5⟩ := p2.dk_inv
    obtain rfl := kD_inv (p1.mono e2.of0)
    refine ⟨a, valV ws k, rfl, DGet.k h3, q _ H2 (e1.trans e2) ?_⟩
    rw [look_some k h5]
    exact Rp.bl _
theorem ed_dnewT : EvD K M tDNewT τ (.dt [] []) := fun σ H r Q q p hp => q _ _ (Le.new hp) (Rp.dt (not_M r.tr hp) upd_same rfl RpL.nil)
/-! ### defs -/
def spD (K : PySem.W.Frag) (f : List D → (D → Prop) → Prop) : Sp := fun vs H Q _ => ∃ (M : Addr → Prop) (ds : List D) (P : D → Prop), (∀ a, M a → H a ≠ none) ∧ RpL K M H ds vs ∧ f ds P ∧ ∀ v H' d, Le0 H H' → Rp K M H' d v → P d → Q v H'
theorem ed_call {F : List D → (D → Prop) → Prop} {E : XK} (h : EaD K M tl τ ds) (hf : F ds P) : EvP K M (tCall (spD K F) [] E tl) τ P := fun σ H r Q q =>
  h σ H r _ fun vs H1 e1 p1 => ⟨M, ds, P, (r.mono e1).tr, by rw [List.append_nil]; exact p1, hf, fun v H' d l p hp => q v H' d (e1.trans l) p hp⟩
theorem ed_callD {F : List D → (D → Prop) → Prop} {E : XK} (h : EaD K M tl τ ds) (hf : F ds (fun x => x = d)) : EvD K M (tCall (spD K F) [] E tl) τ d := fun σ H r Q q =>
  ed_call (E := E) h hf σ H r Q fun v H' d' l p hp => by subst hp; exact q v H' l p
def startT (N : List Str) (ds : List D) : Tau := ds.map some ++ List.replicate (N.length - ds.length) none
theorem rel_start {N : List Str} {vs : List V} (tr : ∀ a, M a → H a ≠ none) (h : RpL K M H ds vs) : Rel K M H (L2.start N vs) (startT N ds) := by
  refine ⟨tr, ?_, fun i d q => ?_⟩
  · unfold L2.start startT
    rw [List.length_append, List.length_append, List.length_map, List.length_map, List.length_replicate, List.length_replicate, h.len]
  · unfold L2.start startT at *
    rw [List.getElem?_append] at q ⊢
    rw [List.length_map] at q ⊢
    rw [h.len]
    by_cases hi : i < ds.length
    · rw [if_pos hi] at q ⊢
      rw [List.getElem?_map, List.getElem?_eq_getElem hi] at q
      have e1 : some (ds[i]) = some d := Option.some.inj q
      have e2 : ds[i] = d := Option.some.inj e1
      obtain ⟨v, hv, pv⟩ := h.get (List.getElem?_eq_getElem hi)
      rw [List.getElem?_map, hv]
      exact ⟨v, rfl, e2 ▸ pv⟩
    · rw [if_neg hi] at q
      rw [List.getElem?_replicate] at q
      split at q <;> cases q
end
section
variable {P : Program} {w : World} {K : PySem.W.Frag} {mg : Str → Option Value} {base : Heap}
theorem fnD {x qual : Str} {st : Stmt} {f : Addr} {fd : FuncData} {N ps : List Str} {k : Nat} {F : List D → (D → Prop) → Prop} (U : Fun K x qual st f fd) (S : FnScope N ps (defScope st)) (len : ∀ ds Pd, F ds Pd → ds.length = ps.length)
    (hbody : ∀ (cdv : Value) (A : Around) (outer : List Env) (s : Shared) (H : Hp) (E : XK), Room k (A.deeper (envOfC qual (defScope st) s.heap.objs.size f cdv)) →
      ∃ t, PSs (cxOf CX0 P w K mg base N qual (defScope st) f cdv A outer s H E).nox (defBody st) t ∧ ∀ M ds Pd, F ds Pd → WD K M t (fun _ => Pd .non) Pd (startT N ds)) : FnOk P w K mg base CX0 (k + 1) f fd ps (spD K F) := by
  refine U.ok S (fun vs H Q E h => ?_) (fun cdv A outer s H vs Q E hr h => ?_)
  · obtain ⟨M, ds, Pd, _, h2, h3, _⟩ := h
    rw [h2.len]
    exact len ds Pd h3
  · obtain ⟨M, ds, Pd, h1, h2, h3, h4⟩ := h
    obtain ⟨t, ht, hw⟩ := hbody cdv A outer s H E hr
    exact ⟨t, ht, hw M ds Pd h3 _ _ H (rel_start h1 h2) (fun σ' H' τ' l r n => h4 .non H' .non l Rp.non n) fun v H' d l p n => h4 v H' d l p n⟩
end
end PD
/-! Rules beside the hand layer's: a list unpacked, enumerate of a tuple. -/
namespace PDX
open PySem PySem.Spec PyProof.Rows L2
section
variable {prog : Program} {w : World} {A : Around} {E : Value → Shared → Prop} {s : Shared}
theorem drawL {it t : Addr} {items : Array Value} (hne : t ≠ it) : ∀ (n i : Nat) (s : Shared) (Q : List Value → Shared → Prop), s.heap.IsListIter it t i → s.heap.IsList t items → i + n ≤ items.size →
    (∀ h', h'.IsListIter it t (i + n) → Heap.SameBut it s.heap h' → Q ((items.toList.drop i).take n) { s with heap := h' }) → wpAny (model prog w) A (draw (.ref it) n) Q E s
  | 0, i, s, Q, hit, _, _, hQ => by
    show wpAny _ _ (pure []) Q E s
    exact wpAny_pure (by simpa using hQ s.heap hit (Heap.SameBut.refl ..))
  | n + 1, i, s, Q, hit, ht, hle, hQ => by
    have hlt : i < items.size := by omega
    show wpAny _ _ (pyNext (.ref it) >>= _) Q E s
    refine wpAny_bind (wpAny_pyNext_list_item hit ht (x := items[i]) (by simp [hlt]) fun h₁ hit₁ hs₁ => ?_)
    refine wpAny_bind (wpAny_holding (drawL hne n (i + 1) _ _ hit₁ (ht.extBut hs₁.extBut hne) (by omega) fun h₂ hit₂ hs₂ => wpAny_pure ?_))
    have hd : items.toList.drop i = items[i] :: items.toList.drop (i + 1) := by simp [List.drop_eq_getElem_cons, hlt]
    have := hQ h₂ (by rw [show i + (n + 1) = i + 1 + n by omega]; exact hit₂) (hs₁.trans hs₂)
    rw [hd, List.take_succ_cons] at this
    exact this
theorem pushL {h : Heap} {t : Addr} {items : Array Value} {o : Obj} (ht : h.IsList t items) : (h.push o).IsList t items := by
  obtain ⟨x, e, c⟩ := ht
  exact ⟨x, Heap.get?_push_of_some _ e, c⟩
theorem unpackItemsL {t : Addr} {items : Array Value} {Q : List Value → Shared → Prop} (hh : A.handled = none) (ht : s.heap.IsList t items)
    (hQ : ∀ h', Heap.ExtBut s.heap.objs.size s.heap h' → Q items.toList { s with heap := h' }) : wpAny (model prog w) A (unpackItems (.ref t) items.size none) Q E s := by
  have hlt : t ≠ s.heap.objs.size := by obtain ⟨o, ho, _⟩ := ht; exact Nat.ne_of_lt (Heap.lt_size ho)
  unfold unpackItems
  refine wpAny_bind ?_
  · unfold notIterableAtAll
    refine wpAny_bind (wpAny_specialOf ht.typeIs PySem.slot_list_iter.lookup ?_)
    refine wpAny_pure ?_
    simp only [Bool.false_eq_true, if_false]
    refine wpAny_bind (wpAny_holding (wpAny_pyIter_list ht ?_))
    refine wpAny_bind (wpAny_holding (drawL hlt items.size 0 _ _ ⟨_, Heap.get?_push_size _ rfl, rfl, rfl⟩ (pushL ht) (by omega) fun h₁ hit₁ hs₁ => ?_))
    have hall : List.take items.size (List.drop 0 items.toList) = items.toList := by
      rw [List.drop_zero]; exact List.take_of_length_le (by simp)
    rw [hall]
    rw [if_neg (by simp)]
    have ht₁ : h₁.IsList t items := (pushL ht).extBut hs₁.extBut hlt
    refine wpAny_bind (wpAny_holding (wpAny_pyNext_list_end hh hit₁ ht₁ (by simp) fun h₂ he₂ => ?_))
    simp only [Option.isSome_none, Bool.false_eq_true, if_false]
    refine wpAny_pure (hQ h₂ fun b o hb e => he₂ b o hb (hs₁.extBut b o hb (Heap.get?_push_of_some _ e)))
theorem unpackL {t : Addr} {items : Array Value} {targets : List (Bool × (Value → Sem Unit))} {Q : Unit → Shared → Prop} (hh : A.handled = none) (ht : s.heap.IsList t items)
    (hn : targets.length = items.size) (hstar : targets.findIdx? (·.1) = none)
    (h : ∀ h', Heap.ExtBut s.heap.objs.size s.heap h' → wpAny (model prog w) A (assignInOrder (targets.map (·.2)) items.toList) Q E { s with heap := h' }) :
    wpAny (model prog w) A (unpack (.ref t) targets) Q E s := by
  unfold unpack
  rw [hn, hstar]
  exact wpAny_bind (wpAny_holding (unpackItemsL hh ht h))
end
/-- a, b, .. = a list of that length -/
def gLstT (K : PySem.W.Frag) (n : Nat) (t : TGs) : TG := fun v σ H Q => ∃ a xs, v = .ref a ∧ SqL K H a xs ∧ xs.length = n ∧ t xs σ H Q
theorem pg_lst {X : Cx} {pos : Pos} {es : List Expr} {k : Nat} {t : TGs} {n : Nat} (hc : X.calm = true) (h : PGs X es t)
    (hn : (assignEach es X.env).length = n := by rfl) (hst : (assignEach es X.env).findIdx? (·.1) = none := by rfl) : PG X (.Tuple es k pos) (gLstT X.K n t) := by
  refine ⟨fun pins s σ H v u Q I r hw => ?_⟩
  obtain ⟨a, xs, e1, hq, hl, hw⟩ := hw
  subst e1
  cases r
  obtain ⟨its, rv, ht, hz⟩ := I.list hq
  rw [assign_Tuple]
  refine wpAny_bind (wpAny_standAt (unpackL (I.ok.hd hc) ht.isList (by simp [hn, ← hl, rv.length]) hst fun h' hx => ?_))
  have I1 : Inv X pins σ H { s with heap := h' } := I.kept (t' := s.toks) fun b o e => hx b o (Nat.ne_of_lt (Heap.lt_size e)) e
  exact h.run pins _ σ H xs _ Q I1 (by simpa using rv) hw

/-! ### enumerate(a tuple) -/
theorem meets_enumT (l : Addr) (items : Array Value) (n : Nat) (dct : Option Addr) (sl : Array (Option Value)) :
    Meets (Builtin.«enumerate.__new__» ⟨[.type "enumerate", .ref l], []⟩) (fun _ R s => s.heap.get? l = some { cls := .type "tuple", dict := dct, data := .seq items n, slots := sl } ∧
      R (.ok (.ret (.ref (s.heap.push { cls := .type "tuple_iterator", data := .fields #[.ref l, .int 0 0] }).objs.size)))
        { s with heap := (s.heap.push { cls := .type "tuple_iterator", data := .fields #[.ref l, .int 0 0] }).push { cls := .type "enumerate", data := .fields #[.none, .bool false, .ref s.heap.objs.size, rawInt 0, .none, .none] } }) :=
  .of_wp fun prog w A R s h => by
    obtain ⟨hp, g, d, tk, os⟩ := s; obtain ⟨hl, h⟩ := h
    have hsub := sub_enumerate
    have hL : Heap.IsTuple (Shared.heap ⟨hp, g, d, tk, os⟩) l items := ⟨_, hl, rfl, n, rfl⟩
    wp_walk using AutoSeq1.wpAny_loadPart' hl
    refine wpAny_stack_any fun st => wpAny_pure ?_
    split
    · rename_i c _ _ _ _ _
      cases (c == Value.type "enumerate")
      · wp_walk using AutoSeq1.wpAny_loadPart' hl, wpAny_pyIter_tuple hL
        exact ⟨_, rfl, h⟩
      · wp_walk using AutoSeq1.wpAny_loadPart' hl, wpAny_pyIter_tuple hL
        exact ⟨_, rfl, h⟩
    · wp_walk using AutoSeq1.wpAny_loadPart' hl, wpAny_pyIter_tuple hL
      exact ⟨_, rfl, h⟩
section
variable {prog : Program} {w : World} {A : Around} {E : Value → Shared → Prop} {s : Shared}
theorem call_enumT {l : Addr} {items : Array Value} {Q : Value → Shared → Prop} (hL : s.heap.IsTuple l items)
    (h : ∀ h', IsEnum h' (s.heap.objs.size + 1) s.heap.objs.size 0 .none → h'.IsTupleIter s.heap.objs.size l 0 → h'.objs.size = s.heap.objs.size + 2 →
      (∀ b o, s.heap.get? b = some o → h'.get? b = some o) → Q (.ref (s.heap.objs.size + 1)) { s with heap := h' }) :
    wpAny (model prog w) A (call (.type "enumerate") [.ref l]) Q E s := by
  obtain ⟨⟨c, dct, dt, sl⟩, hl, hc, n, hd⟩ := hL
  replace hc : c = .type "tuple" := hc
  replace hd : dt = .seq items n := hd
  subst hc hd
  refine callType_new F.called_enumerate (by decide) (F.typeCall_enumerate_1 _) (F.newCall_enumerate_1 _) (fun obj => F.args_object_init_2 obj _) F.entry_enumerate_new
    (meets_enumT l items n dct sl) ⟨hl, ?_⟩
  have hz : (s.heap.push { cls := .type "tuple_iterator", data := .fields #[.ref l, .int 0 0] }).objs.size = s.heap.objs.size + 1 := Heap.size_push ..
  show _ ∧ _
  rw [hz]
  have he : IsEnum ((s.heap.push { cls := .type "tuple_iterator", data := .fields #[.ref l, .int 0 0] }).push
      { cls := .type "enumerate", data := .fields #[.none, .bool false, .ref s.heap.objs.size, rawInt 0, .none, .none] }) (s.heap.objs.size + 1) s.heap.objs.size 0 .none := by
    have := Heap.get?_push_size (s.heap.push { cls := .type "tuple_iterator", data := .fields #[.ref l, .int 0 0] })
      (o := { cls := .type "enumerate", data := .fields #[.none, .bool false, .ref s.heap.objs.size, rawInt 0, .none, .none] }) rfl
    rw [hz] at this; exact this
  refine ⟨⟨_, he, rfl⟩, h _ he ⟨_, Heap.get?_push_of_some _ (Heap.get?_push_size _ rfl), rfl, rfl⟩ (by rw [Heap.size_push, hz]) fun b o x => Heap.get?_push_of_some _ (Heap.get?_push_of_some _ x)⟩
end
/-- the tuple at a, each item in a new pair -/
def IteT (K : PySem.W.Frag) (a : Addr) : It :=
  ⟨fun i H => ∃ (xs : List V) (x : V), SqT K H a xs ∧ xs[i]? = some x, fun i H v H' => ∃ T x, v = .ref T ∧ H T = none ∧ H' = upd H T (.tup [.int (i : Nat), x]) ∧ ∀ xs, SqT K H a xs → xs[i]? = some x, fun i H => ∃ xs : List V, SqT K H a xs ∧ xs.length ≤ i⟩
theorem turn_enumT {P : Program} {w : World} {K : PySem.W.Frag} {elts : List Expr} {kk : Nat} {tpos : Pos} (a e it : Addr) :
    Turn P w K (.Tuple elts kk tpos) (IteT K a) [e, it] e (fun i h => (∃ old, IsEnum h e it ((i : Nat) : Int) old) ∧ h.IsTupleIter it a i ∧ e ≠ it ∧ a ≠ it ∧ a ≠ e) where
  mem := by simp
  obj := fun i h st b hb => by
    obtain ⟨⟨old, he⟩, ⟨o, ho, hc, hd⟩, _⟩ := st
    have e' : b = e ∨ b = it := by simpa using hb
    rcases e' with z | z
    · rw [z]; exact ⟨_, he, fun v q => nomatch q⟩
    · rw [z]; exact ⟨o, ho, fun v q => by rw [hd] at q; cases q⟩
  keep := fun i h h' st k => let ⟨⟨old, he⟩, hi, hne⟩ := st; ⟨⟨old, k e (by simp) _ he⟩, hi.at fun o q => k it (by simp) o q, hne⟩
  item := by
    intro X hP hw hK hc i pins s σ H E I hf st hg
    subst hP hw hK
    obtain ⟨⟨old, he⟩, hit, hne, ha1, ha2⟩ := st
    obtain ⟨xs, x, hq, hx⟩ := hg
    obtain ⟨its, rv, p, hz⟩ := I.tuple hq
    have p' : s.heap.IsTuple a its.toArray := p
    obtain ⟨u, hu, ru⟩ := rv.get hx
    have hel : e < s.heap.objs.size := Heap.lt_size he
    have hil : it < s.heap.objs.size := by obtain ⟨_, q, _⟩ := hit; exact Heap.lt_size q
    have hlt : i < its.toArray.size := by
      have := (List.getElem?_eq_some_iff.mp hu).1
      simpa using this
    refine wpAny_pyNext_enum_itemD (Draws.tuple (A := X.A.in1) (I.ok.hd hc) it a ha1 its.toArray) he ⟨hit, p'⟩ hlt hne (by simp [hne, ha2.symm]) fun x' h' tk hx' ho hit' hT hsz hk => ?_
    have ex : x' = u := by
      have e1 : its.toArray[i]? = some x' := hx'
      have e2 : its.toArray[i]? = some u := by simpa using hu
      rw [e1] at e2
      exact Option.some.inj e2
    subst ex
    refine ⟨_, rfl, wpAny_letOwnedTupleGo_enum (s := { s with heap := h', toks := tk + 1 }) ho fun h'' he' sb => ?_⟩
    have hT2 : h''.get? s.heap.objs.size = some { cls := .type "tuple", data := .seq #[.int i tk, x'] } := (sb.2 _ (Nat.ne_of_gt hel)).trans hT
    have new : ObjOk X.prog X.w (upd H s.heap.objs.size (.tup [.int (i : Nat), x])) h'' s.heap.objs.size (.tup [.int (i : Nat), x]) :=
      ⟨by show 2 ≤ sizeLine; decide, [.int i tk, x'], .cons ⟨_, rfl⟩ (.cons ru .nil), ⟨_, hT2, rfl, _, rfl⟩⟩
    have I1 : Inv X pins σ (upd H s.heap.objs.size (.tup [.int (i : Nat), x])) { s with heap := h'', toks := tk + 1 } :=
      I.turnedNew (ch := [e, it]) (fun b ob hb q => (sb.2 b (fun z => hb (by simp [z]))).trans (hk b ob (fun z => hb (by simp [z])) (fun z => hb (by simp [z])) q)) hf (Nat.le_refl _) new
    refine ⟨.ref s.heap.objs.size, _, I1, rfl, ⟨_, x, rfl, I.hok.fresh (Nat.le_refl _), rfl, fun ys hy => by
      have := I.tuple_inj hy hq
      rw [this]; exact hx⟩, ⟨⟨x', ?_⟩, hit'.1.at fun o q => (sb.2 it (Ne.symm hne)).trans q, hne, ha1, ha2⟩, fun b hb => ?_⟩
    · have e1 : ((i + 1 : Nat) : Int) = (i : Int) + 1 := by omega
      rw [e1]; exact he'
    · have hb' : b < s.heap.objs.size := by
        have e' : b = e ∨ b = it := by simpa using hb
        rcases e' with z | z
        · rw [z]; exact hel
        · rw [z]; exact hil
      rw [upd_ne (Nat.ne_of_lt hb')]
      exact (hf b hb).1
  done := by
    intro X hP hw hK hc i pins s σ H E I hf st hg
    subst hP hw hK
    obtain ⟨⟨old, he⟩, hit, hne, ha1, ha2⟩ := st
    obtain ⟨xs, hq, hx⟩ := hg
    obtain ⟨its, rv, p, hz⟩ := I.tuple hq
    have p' : s.heap.IsTuple a its.toArray := p
    obtain ⟨f0, f1, f2, f3, f4, f5⟩ := hf it (by simp)
    have hl := rv.length
    have hn : its.toArray[i]? = none := by simp; omega
    unfold pyNext
    have hT : s.TypeIs (.ref e) "enumerate" := ⟨_, he, rfl⟩
    refine wpAny_bind (wpAny_attempt (wpAny_callSpecial?_slot (name := Str.ofString "__next__") hT F.slot_enumerate_next
      (wpAny_call_entry F.slot_enumerate_next hT F.entry_enumerate_next ?_ (F.args_enumerate_next_1 _))))
    show wpAny _ _ (field (.ref e) 2 >>= _) _ _ _
    refine wpAny_bind (wpAny_field he rfl (x := .ref it) rfl ?_)
    refine wpAny_bind (wpAny_nextOf_tuple_end (I.ok.hd hc) hit p' hn fun h' x he' hx' => ?_)
    obtain ⟨o, ho, hc'⟩ := hx'
    refine wpAny_bind (wpAny_isInstance (T := "StopIteration") (b := true) ⟨o, ho, hc'⟩ isSubtype_stop ?_)
    exact wpAny_pure ⟨rfl, I.turned (t' := s.toks) (fun b o hb q => he' b o hb q) f0 f1 f3 f4 f5⟩
  self := fun A i s Q E st h => let ⟨⟨_, he⟩, _⟩ := st; wpAny_pyIter_enum he h
def iEnumT (K : PySem.W.Frag) (ta : TA) : TI := fun σ H R => ta σ H fun vs H1 => ∃ a xs, vs = [.ref a] ∧ SqT K H1 a xs ∧ R (IteT K a) H1
theorem pi_enumT {X : Cx} {e : Expr} {ta : TA} {p pos tpos : Pos} {elts : List Expr} {kk : Nat} (hg : Gl X "enumerate") (hm : X.mg "enumerate" = none) (ha : PA X [e] ta) (hs : starEach [e] X.env = [(false, eval e X.env)] := by rfl) :
    PI X (.Tuple elts kk tpos) (.Call (.Name "enumerate" p) [e] [] pos) (iEnumT X.K ta) := by
  refine ⟨fun pins s σ H R I h => ?_⟩
  refine Call_ (ld_blt I hg hm boot_enumerate (PyProof.Rows.callWith_type1 (thn (ha.run pos pins s σ H _ I h) fun us s1 ⟨vs, H1, I1, r1, q1⟩ => ?_) hs rfl))
  obtain ⟨a, xs, ex, hq, q⟩ := q1
  subst ex
  cases r1 with
  | cons r rr =>
    cases rr
    cases r
    obtain ⟨its, rv, p', hz⟩ := I1.tuple hq
    have hal : a < s1.heap.objs.size := by
      obtain ⟨o, ho, _⟩ := p'
      exact Heap.lt_size ho
    refine call_enumT (show s1.heap.IsTuple a its.toArray from p') fun h' he hit hsz hk => wpAny_pyIter_enum he ?_
    have I2 : Inv X pins σ H1 { s1 with heap := h' } := I1.kept (t' := s1.toks) hk
    refine ⟨s1.heap.objs.size + 1, [s1.heap.objs.size + 1, s1.heap.objs.size], _, _, H1, rfl, I2, turn_enumT a (s1.heap.objs.size + 1) s1.heap.objs.size, ⟨⟨.none, he⟩, hit, Nat.succ_ne_self _, Nat.ne_of_lt hal, Nat.ne_of_lt (Nat.lt_succ_of_lt hal)⟩, fun b hb => ?_, q⟩
    have e' : b = s1.heap.objs.size + 1 ∨ b = s1.heap.objs.size := by simpa using hb
    have hle : s1.heap.objs.size ≤ b := by
      rcases e' with z | z
      · rw [z]; exact Nat.le_add_right _ _
      · rw [z]; exact Nat.le_refl _
    exact I1.fpOk hle (I1.hok.fresh hle)
end PDX
/-! A dict spread into a display. -/
namespace PDX
open PySem PySem.Spec PyProof.Rows L2
section
variable {prog : Program} {w : World} {K : Type} [DecidableEq K] {knd : HeapKind prog w K} {A : Around} {E : Value → Shared → Prop} {s : Shared}
theorem dictPutH {d a : Addr} {xs : List (K × Addr × Value)} {k : K} {v : Value} {Q : Unit → Shared → Prop} (hu : knd.room A) (hkey : knd.is s.heap k a) (hm : s.heap.DictOfH knd d xs)
    (hQ : ∀ h', h'.DictOfH knd d (storedH xs k a v) → Heap.SameBut d s.heap h' → Q () { s with heap := h' })
    (hsz : xs.length ≤ sizeLine) :
    wpAny (model prog w) A (dictPut d (knd.hash k) (.ref a) v) Q E s := by
  obtain ⟨o, es, ep, ho, hc, hd, he, his, hn⟩ := hm
  unfold dictPut
  refine wpAny_bind (wpAny_dictFind_heap hu hkey ho hd he his hn ?_ ?_)
  · intro hno
    have hnot : k ∉ xs.map (·.1) := not_mem_keys_of_get hno
    refine wpAny_updateDictKeys (hz := by have e := size_of_entries he; omega) ho hd (hQ _ ⟨_, _, ep + 1, Heap.get?_update_self _ ho (Obj.isFreed_of_dict (Obj.data_mapDictKeys hd _)),
      hc.mapDictKeys _, Obj.data_mapDictKeys hd _, ?_, ?_, ?_⟩ (Heap.SameBut.update ..))
    · rw [storedH_new (atKey_none_of_get hno)]
      simp [he, entryOfKey]
    · rw [storedH_new (atKey_none_of_get hno)]
      intro x hx
      rcases List.mem_append.mp hx with hx | hx
      · exact knd.keeps (his x hx) ho hd (Heap.SameBut.update ..)
      · simp only [List.mem_singleton] at hx
        subst hx
        exact knd.keeps hkey ho hd (Heap.SameBut.update ..)
    · rw [storedH_new (atKey_none_of_get hno)]
      rw [List.map_append, List.nodup_append]
      refine ⟨hn, by simp, ?_⟩
      intro x hx y hy
      simp only [List.map_cons, List.map_nil, List.mem_singleton] at hy
      subst hy
      exact fun e => hnot (e ▸ hx)
  · intro j p hj
    refine wpAny_updateDict ho hd (hQ _ ⟨_, _, ep, Heap.get?_update_self _ ho (Obj.isFreed_of_dict (Obj.data_mapDict hd _)),
      hc.mapDict _, Obj.data_mapDict hd _, ?_, ?_, ?_⟩ (Heap.SameBut.update ..))
    · rw [storedH_old (atKey_of_get hn hj)]
      have := modify_map_putAt (entryOfKey knd) (fun e : DictEntry => { e with val := v }) k v (fun _ _ => rfl) hn hj
      rw [← he] at this
      obtain ⟨l⟩ := es
      simpa using this
    · rw [storedH_old (atKey_of_get hn hj)]
      intro x hx
      obtain ⟨y, hy, rfl⟩ := List.mem_map.mp hx
      unfold putAt
      split <;> exact knd.keeps (his y hy) ho hd (Heap.SameBut.update ..)
    · rw [storedH_old (atKey_of_get hn hj)]
      rw [keys_map_putAt]; exact hn

theorem mergeH {d o : Addr} {kvs more : List (K × Addr × Value)} {Q : Unit → Shared → Prop} (hu : knd.room A) (hdo : d ≠ o) (hoS : (o == sysModules) = false)
    (hd : s.heap.DictOfH knd d kvs) (ho : s.heap.DictOfH knd o more) (hap : kvs ≠ [] ∨ ((∀ x ∈ more, s.TypeIs (.ref x.2.1) "tuple") ∧ (more.map fun x => knd.hash x.1).Nodup))
    (hQ : ∀ h', h'.DictOfH knd d (storedAllH kvs more) → h'.DictOfH knd o more → Heap.SameBut d s.heap h' → Q () { s with heap := h' })
    (hsz : kvs.length + more.length ≤ sizeLine) :
    wpAny (model prog w) A (mergeMapping d (.ref o) false) Q E s := by
  obtain ⟨od, esd, epd, hod, hcd, hdd, hed, hisd, hnd⟩ := id hd
  obtain ⟨oo, eso, epo, hoo, hco, hdo', heo, hiso, hno⟩ := id ho
  unfold mergeMapping
  refine wpAny_bind (wpAny_isInstance ho.typeIs isSubtype_dict_dict ?_)
  simp only [if_true]
  refine wpAny_bind (wpAny_specialOf ho.typeIs F.slot_dict_iter.lookup (wpAny_bind (wpAny_pure ?_)))
  simp only [beq_self_eq_true]
  rw [if_neg (by rw [hoS]; exact Bool.false_ne_true)]
  have hlen : eso.size = more.length := size_of_entries heo
  have loop : wpAny (model prog w) A (do
      let l ← dictEntries o
      let epoch ← dictEpoch o
      forIn (List.range l.size) PUnit.unit fun i (_ : PUnit) => (do
          let l' ← dictEntries o
          match l'[i]? with
            | some e => do
              holding [e.key, e.val] (dictPut d e.hash e.key e.val)
              let ep' ← dictEpoch o
              if (ep' != epoch) = true then do
                  (unsupported "dict.changed-during-merge" : Sem PUnit)
                  pure (ForInStep.yield PUnit.unit)
                else pure (ForInStep.yield PUnit.unit)
            | _ => do
              (unsupported "dict.changed-during-merge" : Sem PUnit)
              pure (ForInStep.yield PUnit.unit) : Sem (ForInStep PUnit))
      pure ()) Q E s := by
    refine wpAny_bind (wpAny_dictEntries hoo hdo' ?_)
    refine wpAny_bind (wpAny_dictEpoch hoo hdo' ?_)
    refine wpAny_bind ?_
    rw [List.range_eq_range']
    refine wpAny_forIn_list _
      (fun rest _ s' => ∃ h' i, s' = { s with heap := h' } ∧ rest = List.range' i (eso.size - i) ∧ i ≤ eso.size ∧ h'.DictOfH knd d (storedAllH kvs (more.take i)) ∧ h'.DictOfH knd o more ∧ h'.get? o = some oo ∧ Heap.SameBut d s.heap h')
      _ ?_ ?_ _ _ ⟨s.heap, 0, rfl, by simp, Nat.zero_le _, by simpa [storedAllH] using hd, ho, hoo, Heap.SameBut.refl _ _⟩
    · rintro x rest b s' ⟨h', i, rfl, hr, hi, hd', ho', hoo', hs'⟩
      have hlt : i < eso.size := by
        rcases Nat.lt_or_ge i eso.size with h | h
        · exact h
        · rw [Nat.sub_eq_zero_of_le h] at hr; simp at hr
      obtain ⟨rfl, hrest⟩ : x = i ∧ rest = List.range' (i + 1) (eso.size - (i + 1)) := by
        have e : eso.size - i = (eso.size - (i + 1)) + 1 := by omega
        rw [e, List.range'_succ] at hr
        injection hr with h1 h2
        exact ⟨h1, h2⟩
      refine wpAny_bind (wpAny_dictEntries hoo' hdo' ?_)
      obtain ⟨⟨k, a, v⟩, hkv⟩ : ∃ kv, more[x]? = some kv := ⟨more[x]'(by rw [← hlen]; exact hlt), List.getElem?_eq_getElem _⟩
      rw [entry_at heo x, hkv]
      show wpAny _ _ (holding [.ref a, v] (dictPut d (knd.hash k) (.ref a) v) >>= _) _ _ _
      have hmx : (storedAllH kvs (more.take x)).length ≤ sizeLine := by
        have e1 := storedAllH_length (more.take x) kvs
        have e2 : (more.take x).length ≤ more.length := by rw [List.length_take]; omega
        omega
      have hkey : knd.is h' k a := by
        obtain ⟨_, _, _, _, _, _, _, his', _⟩ := ho'
        exact his' (k, a, v) (List.mem_of_getElem? hkv)
      refine wpAny_bind (wpAny_holding (dictPutH (s := { s with heap := h' }) (hsz := hmx) hu hkey hd' fun h'' hd'' hs'' => ?_))
      have hoo'' : h''.get? o = some oo := (hs''.2 o (Ne.symm hdo)).trans hoo'
      refine wpAny_bind (wpAny_dictEpoch hoo'' hdo' ?_)
      rw [if_neg (by simp)]
      exact wpAny_pure ⟨h'', x + 1, rfl, hrest, hlt, by rw [storedAllH_take_succ kvs more x (k, a, v) hkv]; exact hd'', ho'.notHere hd' hdo hs'', hoo'', hs'.trans hs''⟩
    · rintro b s' ⟨h', i, rfl, hr, hi, hd', ho', hoo', hs'⟩
      have hin : i = eso.size := by
        rcases Nat.lt_or_ge i eso.size with h | h
        · have e : eso.size - i = (eso.size - (i + 1)) + 1 := by omega
          rw [e, List.range'_succ] at hr; exact nomatch hr
        · exact Nat.le_antisymm hi h
      refine wpAny_pure (hQ h' ?_ ho' hs')
      rw [hin, hlen, List.take_length] at hd'; exact hd'
  refine wpAny_bind (wpAny_dictEntries hod hdd ?_)
  simp only [Bool.false_eq_true, if_false]
  by_cases hemp : esd.isEmpty = true
  · rw [if_pos hemp]
    have hkvs : kvs = [] := by
      have h0 : esd = #[] := Array.isEmpty_iff.mp hemp
      have := size_of_entries hed
      rw [h0] at this
      exact List.length_eq_zero_iff.mp (by simpa using this.symm)
    have hap' := hap.resolve_left fun h => h hkvs
    have hq := keysApart heo hap'.1 hap'.2
    refine wpAny_bind (wpAny_dictEntries hoo hdo' ?_)
    refine wpAny_bind ?_
    rw [← Array.forIn_toList]
    refine wpAny_forIn_list _ (fun rest _ s' => s' = s ∧ ∀ e ∈ rest, KeyApart s eso e) _ ?_ ?_ _ _ ⟨rfl, hq⟩
    · rintro e rest b s' ⟨rfl, hall⟩
      have hrest : ∀ x ∈ rest, KeyApart s' eso x := fun x hx => hall x (List.mem_cons_of_mem _ hx)
      rcases hall e List.mem_cons_self with hv | ⟨a, hk, hT, h1⟩
      · cases hk : e.key with
        | ref a => rw [hk] at hv; cases hv
        | _ => exact wpAny_pure ⟨rfl, hrest⟩
      · rw [hk]
        refine wpAny_bind (wpAny_specialOf hT F.slot_tuple_eq.lookup ?_)
        refine wpAny_ite_split (fun _ => ?_) (fun _ => wpAny_pure ⟨rfl, hrest⟩)
        rw [if_neg (by omega)]
        exact wpAny_pure ⟨rfl, hrest⟩
    · rintro b s' ⟨rfl, _⟩
      exact loop
  · rw [if_neg hemp]
    exact loop
end
section
variable {prog : Program} {w : World} {K : Type} [DecidableEq K] {knd : KeyKind prog w K} {A : Around} {E : Value → Shared → Prop} {s : Shared}
theorem dictPutK {d : Addr} {kvs : List (K × Value)} {k : K} {key v : Value} {Q : Unit → Shared → Prop} (hkey : knd.is k key = true) (hm : s.heap.DictOf knd d kvs)
    (hQ : ∀ h', h'.DictOf knd d (stored kvs k v) → Heap.SameBut d s.heap h' → Q () { s with heap := h' })
    (hsz : kvs.length ≤ sizeLine) :
    wpAny (model prog w) A (dictPut d (knd.hash k) key v) Q E s := by
  obtain ⟨o, es, ep, ho, hc, hd, hk, hp, hn⟩ := hm
  have hes : es.size ≤ sizeLine := by have e1 := hp.length; have e2 : es.toList.length = es.size := by simp
                                      omega
  unfold dictPut
  refine wpAny_bind (wpAny_dictFind_of hkey ho hd hk ?_)
  have hidx : (es.findIdx? fun e => knd.is k e.key) = kvs.findIdx? fun kv => decide (kv.1 = k) := by
    rw [← hp.findIdx k]; obtain ⟨l⟩ := es; simp
  cases hi : es.findIdx? fun e => knd.is k e.key with
  | some i =>
    refine wpAny_updateDict ho hd (hQ _ ⟨_, _, ep, Heap.get?_update_self _ ho (Obj.isFreed_of_dict (Obj.data_mapDict hd _)),
      hc.mapDict _, Obj.data_mapDict hd _, hk.modify _ _, ?_, ?_⟩ (Heap.SameBut.update ..))
    · rw [stored, if_pos (any_of_findIdx_some (hidx ▸ hi))]
      have hl : (es.toList.findIdx? fun e => knd.is k e.key) = some i := by rw [← hi]; obtain ⟨l⟩ := es; simp
      have := hp.modify hn hl v
      obtain ⟨l⟩ := es
      simpa using this
    · rw [stored, if_pos (any_of_findIdx_some (hidx ▸ hi)), keys_map_store]; exact hn
  | none =>
    have hnot : k ∉ kvs.map (·.1) := not_mem_of_findIdx_none (hidx ▸ hi)
    have hany : ¬ (kvs.any fun kv => decide (kv.1 = k)) = true := by
      rw [List.any_eq_true]; rintro ⟨kv, hkv, he⟩
      exact hnot (List.mem_map.mpr ⟨kv, hkv, of_decide_eq_true he⟩)
    refine wpAny_updateDictKeys (hz := hes) ho hd (hQ _ ⟨_, _, ep + 1, Heap.get?_update_self _ ho (Obj.isFreed_of_dict (Obj.data_mapDictKeys hd _)),
      hc.mapDictKeys _, Obj.data_mapDictKeys hd _, hk.push hkey _, ?_, ?_⟩ (Heap.SameBut.update ..))
    · rw [stored, if_neg hany]
      have := hp.append hkey (knd.hash k) v
      obtain ⟨l⟩ := es
      simpa using this
    · rw [stored, if_neg hany, List.map_append, List.nodup_append]
      refine ⟨hn, by simp, ?_⟩
      intro a ha b hb
      simp only [List.map_cons, List.map_nil, List.mem_singleton] at hb
      subst hb
      exact fun e => hnot (e ▸ ha)
theorem pairs_at : ∀ {es : List DictEntry} {kvs : List (K × Value)}, Pairs knd es kvs → ∀ (i : Nat) (kv : K × Value), kvs[i]? = some kv → ∃ e : DictEntry, es[i]? = some e ∧ knd.is kv.1 e.key = true ∧ e.val = kv.2
  | _, _, .nil, i, kv, h => by simp at h
  | _, _, .cons a b c, 0, kv, h => by
    have : some _ = some kv := h
    cases this
    exact ⟨_, rfl, a, b⟩
  | _, _, .cons a b c, i + 1, kv, h => by
    simpa using pairs_at c i kv (by simpa using h)
theorem dictOf_other {h h' : Heap} {d o : Addr} {ys : List (K × Value)} (x : h.DictOf knd o ys) (hdo : d ≠ o) (hs : Heap.SameBut d h h') : h'.DictOf knd o ys := by
  obtain ⟨oo, eso, epo, hoo, r⟩ := x
  exact ⟨oo, eso, epo, (hs.2 o (Ne.symm hdo)).trans hoo, r⟩
theorem merged_len (more : List (K × Value)) : ∀ kvs : List (K × Value), (merged kvs more).length ≤ kvs.length + more.length := by
  induction more with
  | nil => exact fun _ => Nat.le_refl _
  | cons p ps ih =>
    intro kvs
    have h1 := ih (stored kvs p.1 p.2)
    have h2 := stored_length_le kvs p.1 p.2
    show (merged (stored kvs p.1 p.2) ps).length ≤ _
    rw [List.length_cons]; omega
theorem mergeKey {d o : Addr} {kvs more : List (K × Value)} {Q : Unit → Shared → Prop} (hdo : d ≠ o) (hoS : (o == sysModules) = false)
    (hd : s.heap.DictOf knd d kvs) (ho : s.heap.DictOf knd o more) (hq : ∀ k v, knd.is k v = true → ∀ a, v ≠ .ref a)
    (hQ : ∀ h', h'.DictOf knd d (merged kvs more) → h'.DictOf knd o more → Heap.SameBut d s.heap h' → Q () { s with heap := h' })
    (hsz : kvs.length + more.length ≤ sizeLine) :
    wpAny (model prog w) A (mergeMapping d (.ref o) false) Q E s := by
  obtain ⟨od, esd, epd, hod, hcd, hdd, hkd, hpd, hnd⟩ := id hd
  obtain ⟨oo, eso, epo, hoo, hco, hdo', hko, hpo, hno⟩ := id ho
  have tI : s.TypeIs (.ref o) "dict" := ho.typeIs
  unfold mergeMapping
  refine wpAny_bind (wpAny_isInstance tI isSubtype_dict_dict ?_)
  simp only [if_true]
  refine wpAny_bind (wpAny_specialOf tI F.slot_dict_iter.lookup (wpAny_bind (wpAny_pure ?_)))
  simp only [beq_self_eq_true]
  rw [if_neg (by rw [hoS]; exact Bool.false_ne_true)]
  have hlen : eso.size = more.length := by
    have := hpo.length
    simpa using this
  have loop : wpAny (model prog w) A (do
      let l ← dictEntries o
      let epoch ← dictEpoch o
      forIn (List.range l.size) PUnit.unit fun i (_ : PUnit) => (do
          let l' ← dictEntries o
          match l'[i]? with
            | some e => do
              holding [e.key, e.val] (dictPut d e.hash e.key e.val)
              let ep' ← dictEpoch o
              if (ep' != epoch) = true then do
                  (unsupported "dict.changed-during-merge" : Sem PUnit)
                  pure (ForInStep.yield PUnit.unit)
                else pure (ForInStep.yield PUnit.unit)
            | _ => do
              (unsupported "dict.changed-during-merge" : Sem PUnit)
              pure (ForInStep.yield PUnit.unit) : Sem (ForInStep PUnit))
      pure ()) Q E s := by
    refine wpAny_bind (wpAny_dictEntries hoo hdo' ?_)
    refine wpAny_bind (wpAny_dictEpoch hoo hdo' ?_)
    refine wpAny_bind ?_
    rw [List.range_eq_range']
    refine wpAny_forIn_list _
      (fun rest _ s' => ∃ h' i, s' = { s with heap := h' } ∧ rest = List.range' i (eso.size - i) ∧ i ≤ eso.size ∧ h'.DictOf knd d (merged kvs (more.take i)) ∧ h'.DictOf knd o more ∧ h'.get? o = some oo ∧ Heap.SameBut d s.heap h')
      _ ?_ ?_ _ _ ⟨s.heap, 0, rfl, by simp, Nat.zero_le _, by simpa [merged] using hd, ho, hoo, Heap.SameBut.refl _ _⟩
    · rintro x rest b s' ⟨h', i, rfl, hr, hi, hd', ho', hoo', hs'⟩
      have hlt : i < eso.size := by
        rcases Nat.lt_or_ge i eso.size with h | h
        · exact h
        · rw [Nat.sub_eq_zero_of_le h] at hr; simp at hr
      obtain ⟨rfl, hrest⟩ : x = i ∧ rest = List.range' (i + 1) (eso.size - (i + 1)) := by
        have e : eso.size - i = (eso.size - (i + 1)) + 1 := by omega
        rw [e, List.range'_succ] at hr
        injection hr with h1 h2
        exact ⟨h1, h2⟩
      refine wpAny_bind (wpAny_dictEntries hoo' hdo' ?_)
      obtain ⟨⟨k, v⟩, hkv⟩ : ∃ kv, more[x]? = some kv := ⟨more[x]'(by rw [← hlen]; exact hlt), List.getElem?_eq_getElem _⟩
      obtain ⟨e, he1, he2, he3⟩ := pairs_at hpo x _ hkv
      have he0 : eso[x]? = some e := by simpa using he1
      obtain ⟨k', hk1, hk2⟩ := hko e (Array.mem_of_getElem? he0)
      have hkk : k' = k := knd.inj _ _ _ hk1 he2
      subst hkk
      obtain ⟨ha, ke, va⟩ := e
      replace he3 : va = v := he3
      replace hk2 : ha = knd.hash k' := hk2
      subst he3 hk2
      rw [he0]
      show wpAny _ _ (holding [ke, va] (dictPut d (knd.hash k') ke va) >>= _) _ _ _
      have hmx : (merged kvs (more.take x)).length ≤ sizeLine := by
        have e1 := merged_len (more.take x) kvs
        have e2 : (more.take x).length ≤ more.length := by rw [List.length_take]; omega
        omega
      refine wpAny_bind (wpAny_holding (dictPutK (s := { s with heap := h' }) (hsz := hmx) he2 hd' fun h'' hd'' hs'' => ?_))
      have hoo'' : h''.get? o = some oo := (hs''.2 o (Ne.symm hdo)).trans hoo'
      refine wpAny_bind (wpAny_dictEpoch hoo'' hdo' ?_)
      rw [if_neg (by simp)]
      exact wpAny_pure ⟨h'', x + 1, rfl, hrest, hlt, by rw [merged_take_succ kvs more x (k', va) hkv]; exact hd'', dictOf_other ho' hdo hs'', hoo'', hs'.trans hs''⟩
    · rintro b s' ⟨h', i, rfl, hr, hi, hd', ho', hoo', hs'⟩
      have hin : i = eso.size := by
        rcases Nat.lt_or_ge i eso.size with h | h
        · have e : eso.size - i = (eso.size - (i + 1)) + 1 := by omega
          rw [e, List.range'_succ] at hr; exact nomatch hr
        · exact Nat.le_antisymm hi h
      refine wpAny_pure (hQ h' ?_ ho' hs')
      rw [hin, hlen, List.take_length] at hd'; exact hd'
  refine wpAny_bind (wpAny_dictEntries hod hdd ?_)
  simp only [Bool.false_eq_true, if_false]
  by_cases hemp : esd.isEmpty = true
  · rw [if_pos hemp]
    refine wpAny_bind (wpAny_dictEntries hoo hdo' ?_)
    refine wpAny_bind ?_
    rw [← Array.forIn_toList]
    refine wpAny_forIn_list _ (fun rest _ s' => s' = s ∧ ∀ e ∈ rest, e ∈ eso.toList) _ ?_ ?_ _ _ ⟨rfl, fun e h => h⟩
    · rintro e rest b s' ⟨rfl, hall⟩
      have hrest : ∀ x ∈ rest, x ∈ eso.toList := fun x hx => hall x (List.mem_cons_of_mem _ hx)
      obtain ⟨k', hk1, _⟩ := hko e (by simpa using hall e List.mem_cons_self)
      cases hk : e.key with
      | ref a => exact absurd hk (hq k' _ hk1 a)
      | _ => exact wpAny_pure ⟨rfl, hrest⟩
    · rintro b s' ⟨rfl, _⟩
      exact loop
  · rw [if_neg hemp]
    exact loop
end
/-! ### the displays -/
section
variable {prog : Program} {w : World} {A : Around} {E : Value → Shared → Prop} {s : Shared}
theorem quiet_merge {d a : Addr} {m : Value} {k1 k3 : Value → Sem Unit} {k2 : Value → Sem Unit} {Q : Unit → Shared → Prop} (h : wpAny (model prog w) A (mergeMapping d m false) Q (fun _ _ => False) s) :
    wpAny (model prog w) A ((((holding [Value.ref d, m] (mergeMapping d m false)).onRaise k1).tryCatch k2).onRaise k3) Q E s :=
  wpAny_onRaise (wpAny_tryCatch (wpAny_onRaise (wpAny_holding (wpAny_mono h (fun _ _ q => q) fun _ _ q => q.elim))))
theorem quiet_merge1 {d sub : Addr} {k1 : Value → Sem Unit} {Q : Unit → Shared → Prop} (h : wpAny (model prog w) A (mergeMapping d (.ref sub) false) Q (fun _ _ => False) s) :
    wpAny (model prog w) A ((holding [Value.ref d, Value.ref sub] (mergeMapping d (.ref sub) false)).onRaise k1) Q E s :=
  wpAny_onRaise (wpAny_holding (wpAny_mono h (fun _ _ q => q) fun _ _ q => q.elim))
theorem display_put {m k v : Sem Value} {Q : Value → Shared → Prop}
    (h : wpAny (model prog w) A m (fun mv s1 => wpAny (model prog w) A (mergeMapping s.heap.objs.size mv false) (fun _ s2 => wpAny (model prog w) A (subDict [(k, v)]) (fun sub s3 => wpAny (model prog w) A (mergeMapping s.heap.objs.size (.ref sub) false) (fun _ s4 => Q (.ref s.heap.objs.size) s4) (fun _ _ => False) s3) E s2) (fun _ _ => False) s1) E
      { s with heap := s.heap.push { cls := .type "dict", data := .dict #[] } }) :
    wpAny (model prog w) A (dictDisplay [(none, m), (some k, v)]) Q E s := by
  unfold dictDisplay
  dsimp only
  simp only [List.forIn_cons, List.forIn_nil]
  refine wpAny_bind (wpAny_bind (wpAny_bind ?_))
  refine wpAny_pure ?_
  refine wpAny_bind (wpAny_alloc ?_)
  refine wpAny_bind (wpAny_holding (wpAny_mono h (fun mv s1 h1 => ?_) fun _ _ q => q))
  refine wpAny_bind (quiet_merge (a := 0) (wpAny_mono h1 (fun _ s2 h2 => ?_) fun _ _ q => q))
  refine wpAny_pure ?_
  refine wpAny_bind (wpAny_pure (wpAny_pure ?_))
  refine wpAny_bind ?_
  refine wpAny_bind (wpAny_holding (wpAny_mono h2 (fun sub s3 h3 => ?_) fun _ _ q => q))
  refine wpAny_bind (quiet_merge1 (wpAny_mono h3 (fun _ s4 h4 => ?_) fun _ _ q => q))
  exact wpAny_pure (wpAny_pure h4)
theorem display_two {m m' : Sem Value} {Q : Value → Shared → Prop}
    (h : wpAny (model prog w) A m (fun mv s1 => wpAny (model prog w) A (mergeMapping s.heap.objs.size mv false) (fun _ s2 => wpAny (model prog w) A m' (fun sub s3 => wpAny (model prog w) A (mergeMapping s.heap.objs.size sub false) (fun _ s4 => Q (.ref s.heap.objs.size) s4) (fun _ _ => False) s3) E s2) (fun _ _ => False) s1) E
      { s with heap := s.heap.push { cls := .type "dict", data := .dict #[] } }) :
    wpAny (model prog w) A (dictDisplay [(none, m), (none, m')]) Q E s := by
  unfold dictDisplay
  dsimp only
  simp only [List.forIn_cons, List.forIn_nil]
  refine wpAny_bind (wpAny_bind (wpAny_bind ?_))
  refine wpAny_pure ?_
  refine wpAny_bind (wpAny_alloc ?_)
  refine wpAny_bind (wpAny_holding (wpAny_mono h (fun mv s1 h1 => ?_) fun _ _ q => q))
  refine wpAny_bind (quiet_merge (a := 0) (wpAny_mono h1 (fun _ s2 h2 => ?_) fun _ _ q => q))
  refine wpAny_pure ?_
  refine wpAny_bind (wpAny_bind ?_)
  refine wpAny_pure ?_
  refine wpAny_bind (wpAny_pure ?_)
  refine wpAny_bind (wpAny_holding (wpAny_mono h2 (fun mv s1 h1 => ?_) fun _ _ q => q))
  refine wpAny_bind (quiet_merge (a := 0) (wpAny_mono h1 (fun _ s2 h2 => ?_) fun _ _ q => q))
  exact wpAny_pure (wpAny_pure (wpAny_bind (wpAny_pure (wpAny_pure h2))))
end
end PDX
/-! A dict spread into a display: the rules for expressions. -/
namespace PDX
open PySem PySem.Spec PyProof.Rows L2
/-- the keys' hashes are unlike -/
def Apart (P : Program) (w : World) (ks : List (List Key)) : Prop := (ks.map fun k => tupleKeyHash (mixKind P w) k).Nodup
def mergeT (kvs more : List (List Key × V)) : List (List Key × V) := more.foldl (fun acc kv => putK acc kv.1 kv.2) kvs
theorem KT.keys {H : Hp} : ∀ {kvs : List (List Key × V)} {xs : List (List Key × Addr × Value)}, KT H kvs xs → xs.map (·.1) = kvs.map (·.1)
  | _, _, .nil => rfl
  | _, _, .cons h t => by
    rw [List.map_cons, List.map_cons, h.1]
    exact congrArg _ (KT.keys t)
theorem KT.all {H : Hp} : ∀ {more : List (List Key × V)} {ys : List (List Key × Addr × Value)}, KT H more ys → ∀ {kvs : List (List Key × V)} {xs : List (List Key × Addr × Value)}, KT H kvs xs → KT H (mergeT kvs more) (storedAllH xs ys)
  | _, _, .nil, _, _, r => r
  | p :: ps, q :: qs, .cons h t, kvs, xs, r => by
    show KT H (mergeT (putK kvs p.1 p.2) ps) (storedAllH (storedH xs q.1 q.2.1 q.2.2) qs)
    rw [← h.1]
    exact KT.all t (r.put p.1 h.2.1 h.2.2)
theorem mergeT_len : ∀ (more kvs : List (List Key × V)), (mergeT kvs more).length ≤ kvs.length + more.length
  | [], kvs => by show kvs.length ≤ kvs.length + 0; omega
  | p :: r, kvs => by
    have h1 := mergeT_len r (putK kvs p.1 p.2)
    have h2 := length_putK kvs p.1 p.2
    show (mergeT (putK kvs p.1 p.2) r).length ≤ _
    rw [List.length_cons]; omega
theorem typ_of {P : Program} {w : World} {H : Hp} {s : Shared} (ok : HOk P w H s.heap) {kvs : List (List Key × V)} {xs : List (List Key × Addr × Value)} (r : KT H kvs xs) : ∀ x ∈ xs, s.TypeIs (.ref x.2.1) "tuple" := by
  induction r with
  | nil => intro x hx; exact nomatch hx
  | @cons p q ps qs hq t ih =>
    intro x hx
    rcases List.mem_cons.mp hx with e | hx
    · subst e
      obtain ⟨_, its, r, o, h1, h2, n, h3⟩ := (show ObjOk P w H s.heap x.2.1 (.tup (p.1.map kV)) from ok _ _ hq.2.1)
      exact ⟨o, h1, h2⟩
    · exact ih x hx
section
variable {X : Cx} {pins : List (Addr × Obj)} {σ : L2.St} {H : Hp} {s : Shared}
/-- the dict at d takes the entries of that at o -/
theorem merge_step {d o : Addr} {kvs more : List (List Key × V)} {A : Around} {Q : Unit → Shared → Prop} {E : Value → Shared → Prop} (hu : A.units + 1 < cLine) (I : Inv X pins σ H s) (hdo : d ≠ o) (hd : H d = some (.dT kvs)) (ho : Rd H o (.dT more))
    (hap : kvs ≠ [] ∨ Apart X.prog X.w (more.map (·.1))) (hz : kvs.length + more.length ≤ sizeLine)
    (hQ : ∀ h', Inv X pins σ (upd H d (.dT (mergeT kvs more))) { s with heap := h' } → Q () { s with heap := h' }) :
    wpAny (model X.prog X.w) A (mergeMapping d (.ref o) false) Q E s := by
  obtain ⟨za, ya, xs, rx, dx⟩ := dt_of I.hok hd
  obtain ⟨zb, yb, ys, ry, dy⟩ := dt_rd I.hok ho
  have e1 : xs.length = kvs.length := rx.length.symm
  have e2 : ys.length = more.length := ry.length.symm
  refine mergeH (knd := tupleKind (mixKind X.prog X.w)) (Nat.lt_of_succ_lt hu) hdo yb dx dy ?_ (fun h' hd' ho' hs => hQ h' ?_) (by omega)
  · rcases hap with q | q
    · refine .inl fun z => q ?_
      rw [z] at e1
      exact List.length_eq_zero_iff.mp e1.symm
    · refine .inr ⟨typ_of I.hok ry, ?_⟩
      unfold Apart at q
      rw [← KT.keys ry, List.map_map] at q
      exact q
  · obtain ⟨ob, es, ep, g1, g2, g3, g4, g5, g6⟩ := hd'
    refine d_write I (by rw [hd]; exact True.intro) hs ⟨_, g1⟩ ⟨Nat.le_trans (mergeT_len more kvs) hz, ya, storedAllH xs ys, ?_, ob, es, ep, g1, g2, g3, g4, g6⟩
    exact (KT.all ry rx).keeps fun b zs z => by
      rw [upd_ne (ne_of z hd (by intro q; cases q))]
      exact z
/-- {**m, k: v}, the keys tuples -/
def tPutT (P : Program) (w : World) (te tk tv : TE) : TE := fun σ H Q => ∀ d, H d = none → te σ (upd H d (.dT [])) fun x H1 => ∃ o kvs, x = .ref o ∧ o ≠ d ∧ Rd H1 o (.dT kvs) ∧ H1 d = some (.dT []) ∧ Apart P w (kvs.map (·.1)) ∧ kvs.length < sizeLine ∧
  ∀ p, (upd H1 d (.dT kvs)) p = none → tk σ (upd (upd H1 d (.dT kvs)) p (.dT [])) fun y H2 => tv σ H2 fun z H3 => ∃ k b, y = .ref b ∧ H3 b = some (.tup (k.map kV)) ∧ H3 p = some (.dT []) ∧ H3 d = some (.dT kvs) ∧
    Q (.ref d) (upd (upd H3 p (.dT [(k, z)])) d (.dT (putK kvs k z)))
theorem mergeT_nil : ∀ (more : List (List Key × V)), (more.map (·.1)).Nodup → mergeT [] more = more := by
  have gen : ∀ (more acc : List (List Key × V)), ((acc ++ more).map (·.1)).Nodup → mergeT acc more = acc ++ more := by
    intro more
    induction more with
    | nil => intro acc _; exact (List.append_nil acc).symm
    | cons p ps ih =>
      intro acc hn
      have hnone : valV acc p.1 = none := by
        rw [List.map_append, List.map_cons, List.nodup_append] at hn
        cases q : valV acc p.1 with
        | none => rfl
        | some v =>
          exfalso
          unfold valV at q
          cases hf : acc.find? (fun kv => decide (kv.1 = p.1)) with
          | none => rw [hf] at q; cases q
          | some y =>
            have hy := List.mem_of_find?_eq_some hf
            have hp := List.find?_some hf
            exact hn.2.2 y.1 (List.mem_map.mpr ⟨y, hy, rfl⟩) p.1 List.mem_cons_self (by simpa using hp)
      show mergeT (putK acc p.1 p.2) ps = _
      rw [putK_new _ hnone, ih (acc ++ [(p.1, p.2)]) (by simpa using hn)]
      simp
  intro more hn
  simpa using gen more [] (by simpa using hn)
theorem pe_putT {e k v : Expr} {pos : Pos} {te tk tv : TE} (hu : X.A.units + 1 < cLine) (he : PE X e te) (hk : PE X k tk) (hv : PE X v tv)
    (hs : ((evalEachOpt [none, some k] X.env).zip ((evalEach [e, v] X.env).map fun v => do let x ← v; standAt pos; pure x)) = [(none, do let x ← eval e X.env; standAt pos; pure x), (some (eval k X.env), do let x ← eval v X.env; standAt pos; pure x)] := by rfl) :
    PE X (.Dict [none, some k] [e, v] pos) (tPutT X.prog X.w te tk tv) := by
  refine ⟨fun pins s σ H Q I h => ?_⟩
  rw [arm_eval_Dict]
  refine wpAny_bind (wpAny_standAt ?_)
  rw [hs]
  refine display_put ?_
  have hn := I.hok.fresh (Nat.le_refl s.heap.objs.size)
  have I1 := I.laid (a := s.heap.objs.size) (o := .dT []) (h' := s.heap.push { cls := .type "dict", data := .dict #[] }) (t' := s.toks) (fun _ _ q => Heap.get?_push_of_some _ q) (Nat.le_refl _) (dt_empty s.heap I.big)
  refine wpAny_bind (thn (he.run pins _ σ _ _ I1 (h _ hn)) fun u s1 ⟨x, H1, I2, rx, q⟩ => wpAny_bind (wpAny_standAt (wpAny_pure ?_)))
  obtain ⟨o, kvs, rfl, hne, ho, hd, hap, hz, q⟩ := q
  cases rx
  have hnk : (kvs.map (·.1)).Nodup := by
    obtain ⟨_, _, xs, rx, dx⟩ := dt_rd I2.hok ho
    rw [← KT.keys rx]
    exact dx.nodup
  refine merge_step hu I2 hne.symm hd ho (.inr hap) (by simp; omega) fun h' I3 => ?_
  rw [mergeT_nil kvs hnk] at I3
  have hn3 := I3.hok.fresh (Nat.le_refl _)
  have I4 := I3.laid (a := h'.objs.size) (o := .dT []) (h' := h'.push { cls := .type "dict", data := .dict #[] }) (t' := s1.toks) (fun _ _ q => Heap.get?_push_of_some _ q) (Nat.le_refl _) (dt_empty h' I3.big)
  refine wpAny_subDictH (knd := tupleKind (mixKind X.prog X.w)) (Nat.lt_of_succ_lt hu) (by show 1 ≤ 15; decide) (evalPairs_cons (thn (hk.run pins _ σ _ _ I4 (q _ hn3)) fun ku s4 ⟨y, H2, I5, ry, q5⟩ => wpAny_bind (thn (hv.run pins s4 σ H2 _ I5 q5) fun vu s5 ⟨z, H3, I6, rz, q6⟩ => wpAny_bind (wpAny_standAt (wpAny_pure (evalPairs_nil ?_))))))
  obtain ⟨k', b, rfl, hb, hp, hd', q⟩ := q6
  have hkb : ku = .ref b := ry
  subst hkb
  obtain ⟨zp, yp, ps, rp, dp⟩ := dt_of I6.hok hp
  cases rp
  have hpd : s.heap.objs.size ≠ h'.objs.size := by
    intro e
    have := hn3
    rw [← e, upd_same] at this
    cases this
  refine ⟨[(k', b, vu)], ⟨rfl, rfl, key_of I6.hok hb, trivial⟩, dp, fun h6 tk d6 sb => ?_⟩
  have I7 : Inv X pins σ (upd H3 h'.objs.size (.dT [(k', z)])) { s5 with heap := h6, toks := tk } := by
    obtain ⟨ob, es, ep, g1, g2, g3, g4, g5, g6⟩ := d6
    refine d_write I6 (by rw [hp]; exact True.intro) sb ⟨_, g1⟩ ⟨by show 1 ≤ sizeLine; decide, yp, storedAllH [] [(k', b, vu)], ?_, ob, es, ep, g1, g2, g3, g4, g6⟩
    show KT _ [(k', z)] [(k', b, vu)]
    refine .cons ⟨rfl, ?_, rz⟩ .nil
    show upd H3 h'.objs.size _ b = _
    rw [upd_ne (ne_of hb hp (by intro q; cases q))]
    exact hb
  refine merge_step (kvs := kvs) (more := [(k', z)]) hu I7 hpd (by rw [upd_ne hpd]; exact hd') (.inl upd_same) (.inr (by unfold Apart; simp)) (by show kvs.length + 1 ≤ sizeLine; omega) fun h8 I8 => ?_
  exact ⟨.ref s.heap.objs.size, _, I8, rfl, q⟩
/-- {**m, **n}, the keys tuples -/
def tTwoT (P : Program) (w : World) (te tf : TE) : TE := fun σ H Q => ∀ d, H d = none → te σ (upd H d (.dT [])) fun x H1 => ∃ o kvs, x = .ref o ∧ o ≠ d ∧ Rd H1 o (.dT kvs) ∧ H1 d = some (.dT []) ∧ Apart P w (kvs.map (·.1)) ∧ kvs.length < sizeLine ∧
  tf σ (upd H1 d (.dT kvs)) fun y H2 => ∃ b more, y = .ref b ∧ b ≠ d ∧ Rd H2 b (.dT more) ∧ H2 d = some (.dT kvs) ∧ Apart P w (more.map (·.1)) ∧ kvs.length + more.length ≤ sizeLine ∧ Q (.ref d) (upd H2 d (.dT (mergeT kvs more)))
theorem pe_twoT {e f : Expr} {pos : Pos} {te tf : TE} (hu : X.A.units + 1 < cLine) (he : PE X e te) (hf : PE X f tf)
    (hs : ((evalEachOpt [none, none] X.env).zip ((evalEach [e, f] X.env).map fun v => do let x ← v; standAt pos; pure x)) = [(none, do let x ← eval e X.env; standAt pos; pure x), (none, do let x ← eval f X.env; standAt pos; pure x)] := by rfl) :
    PE X (.Dict [none, none] [e, f] pos) (tTwoT X.prog X.w te tf) := by
  refine ⟨fun pins s σ H Q I h => ?_⟩
  rw [arm_eval_Dict]
  refine wpAny_bind (wpAny_standAt ?_)
  rw [hs]
  refine display_two ?_
  have hn := I.hok.fresh (Nat.le_refl s.heap.objs.size)
  have I1 := I.laid (a := s.heap.objs.size) (o := .dT []) (h' := s.heap.push { cls := .type "dict", data := .dict #[] }) (t' := s.toks) (fun _ _ q => Heap.get?_push_of_some _ q) (Nat.le_refl _) (dt_empty s.heap I.big)
  refine wpAny_bind (thn (he.run pins _ σ _ _ I1 (h _ hn)) fun u s1 ⟨x, H1, I2, rx, q⟩ => wpAny_bind (wpAny_standAt (wpAny_pure ?_)))
  obtain ⟨o, kvs, rfl, hne, ho, hd, hap, hz, q⟩ := q
  cases rx
  have hnk : (kvs.map (·.1)).Nodup := by
    obtain ⟨_, _, xs, rx, dx⟩ := dt_rd I2.hok ho
    rw [← KT.keys rx]
    exact dx.nodup
  refine merge_step hu I2 hne.symm hd ho (.inr hap) (by simp; omega) fun h' I3 => ?_
  rw [mergeT_nil kvs hnk] at I3
  refine wpAny_bind (thn (hf.run pins _ σ _ _ I3 q) fun u s1 ⟨y, H2, I4, ry, q⟩ => wpAny_bind (wpAny_standAt (wpAny_pure ?_)))
  obtain ⟨b, more, rfl, hnb, hb, hd2, hap2, hz2, q⟩ := q
  cases ry
  refine merge_step hu I4 hnb.symm hd2 hb (.inr hap2) hz2 fun h' I5 => ?_
  exact ⟨.ref s.heap.objs.size, _, I5, rfl, q⟩
/-! ### int keys -/
theorem KV.keys : ∀ {kvs : List (Key × V)} {vs : List (Key × Value)}, KV kvs vs → vs.length = kvs.length := fun r => (Paired.length r).symm
theorem mergeK_step {d o : Addr} {kvs more : List (Key × V)} {A : Around} {Q : Unit → Shared → Prop} {E : Value → Shared → Prop} (I : Inv X pins σ H s) (hdo : d ≠ o) (hd : H d = some (.dK kvs)) (ho : Rd H o (.dK more))
    (hz : kvs.length + more.length ≤ sizeLine)
    (hQ : ∀ h', Inv X pins σ (upd H d (.dK (mergeK kvs more))) { s with heap := h' } → Q () { s with heap := h' }) :
    wpAny (model X.prog X.w) A (mergeMapping d (.ref o) false) Q E s := by
  obtain ⟨za, ya, xs, rx, dx⟩ := dk_of I.hok hd
  obtain ⟨zb, yb, ys, ry, dy⟩ := dk_rd I.hok ho
  have e1 := KV.keys rx
  have e2 := KV.keys ry
  refine mergeKey (knd := mixKind X.prog X.w) hdo yb dx dy (fun k v h a e => ?_) (fun h' hd' ho' hs => hQ h' ?_) (by omega)
  · subst e
    rcases keyIs_shape h with ⟨i, t, _, e⟩ | ⟨x, t, _, e⟩ <;> cases e
  · have g := hd'
    obtain ⟨ob, es, ep, g1, _⟩ := g
    exact d_write I (by rw [hd]; exact True.intro) hs ⟨_, g1⟩ (dk_new (Nat.le_trans (length_mergeK more kvs) hz) ya (ry.merge rx) hd')
theorem mergeK_nil : ∀ (more : List (Key × V)), (more.map (·.1)).Nodup → mergeK [] more = more := by
  have gen : ∀ (more acc : List (Key × V)), ((acc ++ more).map (·.1)).Nodup → mergeK acc more = acc ++ more := by
    intro more
    induction more with
    | nil => intro acc _; exact (List.append_nil acc).symm
    | cons p ps ih =>
      intro acc hn
      have hnone : valV acc p.1 = none := by
        rw [List.map_append, List.map_cons, List.nodup_append] at hn
        cases q : valV acc p.1 with
        | none => rfl
        | some v =>
          exfalso
          unfold valV at q
          cases hf : acc.find? (fun kv => decide (kv.1 = p.1)) with
          | none => rw [hf] at q; cases q
          | some y =>
            have hy := List.mem_of_find?_eq_some hf
            have hp := List.find?_some hf
            exact hn.2.2 y.1 (List.mem_map.mpr ⟨y, hy, rfl⟩) p.1 List.mem_cons_self (by simpa using hp)
      show mergeK (putK acc p.1 p.2) ps = _
      rw [putK_new _ hnone, ih (acc ++ [(p.1, p.2)]) (by simpa using hn)]
      simp
  intro more hn
  simpa using gen more [] (by simpa using hn)
/-- {**m, k: v}, the keys ints or texts -/
def tPutK (te tk tv : TE) : TE := fun σ H Q => ∀ d, H d = none → te σ (upd H d (.dK [])) fun x H1 => ∃ o kvs, x = .ref o ∧ o ≠ d ∧ Rd H1 o (.dK kvs) ∧ H1 d = some (.dK []) ∧ (kvs.map (·.1)).Nodup ∧ kvs.length < sizeLine ∧
  ∀ p, (upd H1 d (.dK kvs)) p = none → tk σ (upd (upd H1 d (.dK kvs)) p (.dK [])) fun y H2 => tv σ H2 fun z H3 => ∃ k, y = kV k ∧ H3 p = some (.dK []) ∧ H3 d = some (.dK kvs) ∧
    Q (.ref d) (upd (upd H3 p (.dK [(k, z)])) d (.dK (putK kvs k z)))
theorem pe_putK {e k v : Expr} {pos : Pos} {te tk tv : TE} (he : PE X e te) (hk : PE X k tk) (hv : PE X v tv)
    (hs : ((evalEachOpt [none, some k] X.env).zip ((evalEach [e, v] X.env).map fun v => do let x ← v; standAt pos; pure x)) = [(none, do let x ← eval e X.env; standAt pos; pure x), (some (eval k X.env), do let x ← eval v X.env; standAt pos; pure x)] := by rfl) :
    PE X (.Dict [none, some k] [e, v] pos) (tPutK te tk tv) := by
  refine ⟨fun pins s σ H Q I h => ?_⟩
  rw [arm_eval_Dict]
  refine wpAny_bind (wpAny_standAt ?_)
  rw [hs]
  refine display_put ?_
  have hn := I.hok.fresh (Nat.le_refl s.heap.objs.size)
  have I1 := I.laid (a := s.heap.objs.size) (o := .dK []) (h' := s.heap.push { cls := .type "dict", data := .dict #[] }) (t' := s.toks) (fun _ _ q => Heap.get?_push_of_some _ q) (Nat.le_refl _) (dk_empty s.heap I.big)
  refine wpAny_bind (thn (he.run pins _ σ _ _ I1 (h _ hn)) fun u s1 ⟨x, H1, I2, rx, q⟩ => wpAny_bind (wpAny_standAt (wpAny_pure ?_)))
  obtain ⟨o, kvs, rfl, hne, ho, hd, hnk, hz, q⟩ := q
  cases rx
  refine mergeK_step I2 hne.symm hd ho (by simp; omega) fun h' I3 => ?_
  rw [mergeK_nil kvs hnk] at I3
  have hn3 := I3.hok.fresh (Nat.le_refl _)
  have I4 := I3.laid (a := h'.objs.size) (o := .dK []) (h' := h'.push { cls := .type "dict", data := .dict #[] }) (t' := s1.toks) (fun _ _ q => Heap.get?_push_of_some _ q) (Nat.le_refl _) (dk_empty h' I3.big)
  refine wpAny_subDict (knd := mixKind X.prog X.w) (by show 1 ≤ 15; decide) (evalPairs_cons (thn (hk.run pins _ σ _ _ I4 (q _ hn3)) fun ku s4 ⟨y, H2, I5, ry, q5⟩ => wpAny_bind (thn (hv.run pins s4 σ H2 _ I5 q5) fun vu s5 ⟨z, H3, I6, rz, q6⟩ => wpAny_bind (wpAny_standAt (wpAny_pure (evalPairs_nil ?_))))))
  obtain ⟨k', rfl, hp, hd', q⟩ := q6
  obtain ⟨zp, yp, ps, rp, dp⟩ := dk_of I6.hok hp
  cases rp
  have hpd : s.heap.objs.size ≠ h'.objs.size := by
    intro e
    have := hn3
    rw [← e, upd_same] at this
    cases this
  refine ⟨[(k', vu)], ⟨kV_is ry, rfl, trivial⟩, dp, fun h6 d6 sb => ?_⟩
  have I7 : Inv X pins σ (upd H3 h'.objs.size (.dK [(k', z)])) { s5 with heap := h6, toks := s5.toks + 1 } := by
    have g := d6
    obtain ⟨ob, es, ep, g1, _⟩ := g
    exact d_write I6 (by rw [hp]; exact True.intro) sb ⟨_, g1⟩ (dk_new (by show 1 ≤ sizeLine; decide) yp (KV.merge (more := [(k', z)]) (.cons ⟨rfl, rz⟩ .nil) .nil) d6)
  refine mergeK_step (kvs := kvs) (more := [(k', z)]) I7 hpd (by rw [upd_ne hpd]; exact hd') (.inl upd_same) (by show kvs.length + 1 ≤ sizeLine; omega) fun h8 I8 => ?_
  exact ⟨.ref s.heap.objs.size, _, I8, rfl, q⟩
end
end PDX
/-! dict(pairs) with tuple keys; sorted of data. -/
namespace PDX
open PySem PySem.Spec PyProof.Rows L2
section
variable {X : Cx}
theorem pairs_ofT {pins : List (Addr × Obj)} {σ : L2.St} {H : Hp} {s : Shared} (I : Inv X pins σ H s) : ∀ {ps : List Addr} {kvs : List (List Key × V)}, Paired (fun p kv => ∃ b, SqT X.K H p [.ref b, kv.2] ∧ H b = some (.tup (kv.1.map kV))) ps kvs →
    ∃ prs : List (List Key × Addr × Value), KT H kvs prs ∧ prs.length = ps.length ∧ (∀ x ∈ prs, (tupleKind (mixKind X.prog X.w)).is s.heap x.1 x.2.1) ∧ ∀ (j : Nat) (q : List Key × Addr × Value), prs[j]? = some q → ∃ (b : Addr), ps[j]? = some b ∧ IsTup s.heap b #[.ref q.2.1, q.2.2]
  | _, _, .nil => ⟨[], .nil, rfl, (fun x hx => by cases hx), fun j q e => by simp at e⟩
  | _, _, .cons (a := p) (b := kv) h t => by
    obtain ⟨b, h, hb⟩ := h
    obtain ⟨prs, r, hl, hk, hp⟩ := pairs_ofT I t
    obtain ⟨its, rv, ht, _⟩ := I.tuple h
    obtain ⟨u, y, ei, ru, ry⟩ := vals2 rv
    subst ei
    have eu : u = .ref b := ru
    subst eu
    refine ⟨(kv.1, b, y) :: prs, .cons ⟨rfl, hb, ry⟩ r, by rw [List.length_cons, List.length_cons, hl], fun x hx => ?_, fun j q e => ?_⟩
    · rcases List.mem_cons.mp hx with e | hx
      · subst e
        exact key_of I.hok hb
      · exact hk x hx
    · cases j with
      | zero =>
        have e' : (kv.1, b, y) = q := Option.some.inj e
        subst e'
        exact ⟨p, rfl, ht⟩
      | succ j =>
        obtain ⟨b', e1, e2⟩ := hp j q (by simpa using e)
        exact ⟨b', by simpa using e1, e2⟩
/-- dict(xs) of a list of pairs (key, value), the keys tuples -/
def rDictT (K : PySem.W.Frag) : List V → Hp → VK → Prop := fun xs H Q => ∃ (a : Addr) (ps : List Addr) (kvs : List (List Key × V)), xs = [.ref a] ∧ SqL K H a (ps.map V.ref) ∧ Paired (fun p kv => ∃ b, SqT K H p [.ref b, kv.2] ∧ H b = some (.tup (kv.1.map kV))) ps kvs ∧
    ∀ p, H p = none → Q (.ref p) (upd H p (.dT (mergeT [] kvs)))
theorem call_dictT (hcalm : X.calm = true) (hu : X.A.units + 2 < cLine) : CallR X (.type "dict") (rDictT X.K) := by
  intro pins s σ H xs us Q I r q
  obtain ⟨a, ps, kvs, ex, hq, hp, q⟩ := q
  subst ex
  obtain ⟨u, eu, rx⟩ := vals1 r
  subst eu
  cases rx
  obtain ⟨its, rv, pl, hz⟩ := I.list hq
  have ei := refs_at rv
  subst ei
  rw [List.length_map] at hz
  obtain ⟨prs, rel, hl, hkey, hpr⟩ := pairs_ofT I hp
  have hlk := rel.length
  refine call_dict_pairsH (knd := tupleKind (mixKind X.prog X.w)) (ps := prs) (PairArg.list a (ps.map Value.ref).toArray (fun j => ps.getD j 0) (prs.map fun x => (.ref x.2.1, x.2.2))) (I.ok.hd hcalm) (show X.A.in1.in1.units < cLine from hu) ⟨?_, ?_, ?_⟩ ⟨?_, ?_⟩ ?_ ?_ fun h' tk hd' k => ?_
  · obtain ⟨o, n, ho, hc, hd, hdat⟩ := pl
    exact ⟨o, n, ho, hc, hd, hdat⟩
  · simp [hl]
  · intro j k v hj
    rw [List.getElem?_map] at hj
    cases e : prs[j]? with
    | none => rw [e] at hj; cases hj
    | some q =>
      rw [e] at hj
      obtain ⟨b, e1, e2⟩ := hpr j q e
      cases hj
      refine ⟨?_, ?_⟩
      · have : ps.getD j 0 = b := by
          rw [List.getD_eq_getElem?_getD, e1]; rfl
        simp [e1]
      · have : ps.getD j 0 = b := by
          rw [List.getD_eq_getElem?_getD, e1]; rfl
        show PairAt s.heap (ps.getD j 0) _ _
        rw [this]
        exact .inl e2
  · simp
  · intro i key v hrel
    have hrel' : (prs.map fun x => (Value.ref x.2.1, x.2.2))[i]? = some (key, v) := hrel
    rw [List.getElem?_map] at hrel'
    cases e : prs[i]? with
    | none => rw [e] at hrel'; cases hrel'
    | some q =>
      rw [e] at hrel'
      cases hrel'
      exact ⟨q.1, q.2.1, rfl, rfl⟩
  · intro h' hk x hx
    obtain ⟨o, items, n, g1, g2, g3, g4⟩ := hkey x hx
    refine ⟨o, items, n, hk _ _ (Nat.ne_of_lt (Heap.lt_size g1)) (fun z => nomatch z) g1, g2, g3, g4⟩
  · simp only [List.length_map]
    omega
  · have hm : (s.heap.objs.size == sysModules) = false := beq_eq_false_iff_ne.mpr (Nat.ne_of_gt I.big)
    have hlen : (mergeT [] kvs).length ≤ sizeLine := by
      refine Nat.le_trans (mergeT_len kvs []) ?_
      rw [List.length_nil, Nat.zero_add, hlk, hl]
      exact hz
    have hn := I.hok.fresh (Nat.le_refl s.heap.objs.size)
    obtain ⟨ob, es, ep, g1, g2, g3, g4, g5, g6⟩ := hd'
    refine ⟨.ref s.heap.objs.size, upd H s.heap.objs.size (.dT (mergeT [] kvs)), I.laid (t' := tk) (fun b o e => k b o (fun z => nomatch z) e) (Nat.le_refl _) ?_, rfl, q _ hn⟩
    refine ⟨hlen, hm, storedAllH [] prs, ?_, ob, es, ep, g1, g2, g3, g4, g6⟩
    exact (KT.all rel (kvs := []) (xs := []) .nil).keeps fun b zs z => by
      rw [upd_ne (ne_of_none z hn)]
      exact z
/-- sorted(xs) of alike tuples -/
def rSortD (K : PySem.W.Frag) : List V → Hp → VK → Prop := fun vs H Q => ∃ (a : Addr) (bs : List (V × PD.D)), vs = [.ref a] ∧ SqL K H a (bs.map (·.1)) ∧ (∀ b ∈ bs, Dp K H b.1 (PD.toP b.2)) ∧
  PySem.W.AllAlike (bs.map fun b => PD.toP b.2) ∧ PySem.W.Sortable (bs.map fun b => PD.toP b.2) ∧ (∀ b ∈ bs, (PD.toP b.2).depth ≤ 8) ∧
  ∀ p, H p = none → Q (.ref p) (upd H p (.lst ((bs.mergeSort (PySem.W.dataLe false fun b => PD.toP b.2)).map (·.1))))
theorem cr_sortD (hu : X.A.units + 11 < cLine) : CallR X (.builtin "sorted") (rSortD X.K) := by
  intro pins s σ H vs us Q I r q
  obtain ⟨a, bs, ex, hq, hd, hal, hs, hdep, q⟩ := q
  subst ex
  obtain ⟨u, eu, rx⟩ := vals1 r
  subst eu
  cases rx
  obtain ⟨its, rv, pl, hz⟩ := I.list hq
  rw [List.length_map] at hz
  have each : ∀ {bs : List (V × PD.D)} {its : List Value}, Vals (bs.map (·.1)) its → (∀ b ∈ bs, Dp X.K H b.1 (PD.toP b.2)) → PySem.W.EachIs (fun v (b : V × PD.D) => RelV b.1 v) its bs ∧ PySem.W.EachIs (fun v (b : V × PD.D) => ∃ as, Reads s.heap v (PD.toP b.2) as) its bs := by
    intro bs
    induction bs with
    | nil => intro its r _; cases r; exact ⟨.nil, .nil⟩
    | cons b bs ih =>
      intro its r hd
      rw [List.map_cons] at r
      cases r with
      | cons h t =>
        obtain ⟨i1, i2⟩ := ih t fun x hx => hd x (List.mem_cons_of_mem _ hx)
        exact ⟨.cons h i1, .cons (Dp.reads I _ _ _ (hd b List.mem_cons_self) h) i2⟩
  obtain ⟨e1, e2⟩ := each rv hd
  refine PySem.W.sorted_data (bs := bs) (enc := fun b => PD.toP b.2) pl.isList e1 e2 hal hs hz (fun b hb => by have := hdep b hb; omega) fun out ho eo => ?_
  have back : ∀ {out : List Value} {bs : List (V × PD.D)}, PySem.W.EachIs (fun v (b : V × PD.D) => RelV b.1 v) out bs → Vals (bs.map (·.1)) out := by
    intro out bs e
    induction e with
    | nil => exact .nil
    | cons h _ ih => exact .cons h ih
  obtain ⟨c, hc⟩ := sortedAll_at s.heap its out.toArray
  have k : ∀ b o, s.heap.get? b = some o → (sortedAll s.heap its out.toArray).get? b = some o := fun _ _ => sortedAll_old
  have hn := I.hok.fresh (Nat.le_succ s.heap.objs.size)
  refine ⟨.ref (s.heap.objs.size + 1), _, I.laid (t' := s.toks) (o := .lst ((bs.mergeSort (PySem.W.dataLe false fun b => PD.toP b.2)).map (·.1))) k (Nat.le_succ _) ⟨?_, out, c, back eo, hc⟩, rfl, q _ hn⟩
  rw [List.length_map, List.length_mergeSort]
  exact hz
end
end PDX
/-! Pure data: calls of built-ins, displays with **, enumerate, a locked dict. -/
namespace PD
open PySem PySem.Spec PyProof.Rows L2 PDX
section
variable {K : PySem.W.Frag} {M : Addr → Prop} {H H' : Hp}
variable {te ta tb tc tk tv : TE} {tt tu : TT} {tl : TA} {τ τ' : Tau} {d e f : D} {ds : List D} {nx : Tau → Prop} {rt : D → Prop} {P : D → Prop}
/-! ### calls of built-ins -/
theorem rc_lenT : RcD K M (fun xs H Q => ∃ p ys, xs = [.ref p] ∧ (SqL K H p ys ∨ SqT K H p ys) ∧ Q (.int ys.length) H) [.tup ds] (.int ds.length) := fun vs H tr h Q q => by
  obtain ⟨v, r, rfl, p, t⟩ := h.inv
  rw [t.inv0]
  obtain ⟨a, ws, rfl, _, h3, h4⟩ := p.tup_inv
  refine ⟨a, ws, rfl, .inr (.inl (.inl h3)), ?_⟩
  rw [h4.len]
  exact q _ H (Le.refl _ _) (Rp.int _)
theorem rc_lenL : RcD K M (fun xs H Q => ∃ p ys, xs = [.ref p] ∧ (SqL K H p ys ∨ SqT K H p ys) ∧ Q (.int ys.length) H) [.lst ds] (.int ds.length) := fun vs H tr h Q q => by
  obtain ⟨v, r, rfl, p, t⟩ := h.inv
  rw [t.inv0]
  obtain ⟨a, ws, rfl, _, h3, h4⟩ := p.lst_inv
  refine ⟨a, ws, rfl, .inl (.inl (.inl h3)), ?_⟩
  rw [h4.len]
  exact q _ H (Le.refl _ _) (Rp.int _)
theorem rc_isiI {i : Int} {n : String} {b : Bool} (hb : kitB "int" n = some b) : RcD K M (rIsi K) [.int i, .ty n] (.bl b) := fun vs H tr h Q q => by
  obtain ⟨v, r, rfl, p, t⟩ := h.inv
  obtain ⟨w, r, rfl, p2, t⟩ := t.inv
  rw [t.inv0, p.int_inv, p2.ty_inv]
  exact ⟨_, _, _, _, b, rfl, ClsV.ty n, TyX.base (TyOf.int i), kit_ty hb, q _ H (Le.refl _ _) (Rp.bl _)⟩
theorem rc_isiT {n : String} {b : Bool} (hb : kitB "tuple" n = some b) : RcD K M (rIsi K) [.tup ds, .ty n] (.bl b) := fun vs H tr h Q q => by
  obtain ⟨v, r, rfl, p, t⟩ := h.inv
  obtain ⟨w, r, rfl, p2, t⟩ := t.inv
  obtain ⟨a, ws, rfl, _, h3, h4⟩ := p.tup_inv
  rw [t.inv0, p2.ty_inv]
  exact ⟨_, _, _, _, b, rfl, ClsV.ty n, TyX.base (TyOf.tup h3), kit_ty hb, q _ H (Le.refl _ _) (Rp.bl _)⟩
theorem bls_inv : ∀ {bs : List Bool} {vs : List V}, RpL K M H (bs.map D.bl) vs → vs = bs.map V.bl
  | [], _, h => h.inv0
  | b :: bs, _, h => by
    obtain ⟨v, r, rfl, p, t⟩ := h.inv
    rw [p.bl_inv, bls_inv t]
    rfl
theorem rc_all {bs : List Bool} : RcD K M (rAll K) [.lst (bs.map D.bl)] (.bl (bs.all id)) := fun vs H tr h Q q => by
  obtain ⟨v, r, rfl, p, t⟩ := h.inv
  rw [t.inv0]
  obtain ⟨a, ws, rfl, _, h3, h4⟩ := p.lst_inv
  rw [bls_inv h4] at h3
  exact ⟨a, bs, rfl, .inl (.inl h3), q _ H (Le.refl _ _) (Rp.bl _)⟩
theorem rc_tupleL : RcD K M (fun xs H Q => ∃ p ys, xs = [.ref p] ∧ ((SqL K H p ys ∧ ∀ l, H l = none → Q (.ref l) (upd H l (.tup ys))) ∨ (SqT K H p ys ∧ Q (.ref p) H))) [.lst ds] (.tup ds) := fun vs H tr h Q q => by
  obtain ⟨v, r, rfl, p, t⟩ := h.inv
  rw [t.inv0]
  obtain ⟨a, ws, rfl, _, h3, h4⟩ := p.lst_inv
  exact ⟨a, ws, rfl, .inl ⟨.inl (.inl h3), fun l hl => q _ _ (Le.new hl) (Rp.tup (not_M tr hl) upd_same (h4.mono (Le.new hl).of0))⟩⟩
theorem rc_min2 {i j : Int} : RcD K M (fun xs H Q => ∃ i j, xs = [.int i, .int j] ∧ Q (.int (if j < i then j else i)) H) [.int i, .int j] (.int (if j < i then j else i)) := fun vs H tr h Q q => by
  obtain ⟨v, r, rfl, p, t⟩ := h.inv
  obtain ⟨w, r, rfl, p2, t⟩ := t.inv
  rw [t.inv0, p.int_inv, p2.int_inv]
  exact ⟨i, j, rfl, q _ H (Le.refl _ _) (Rp.int _)⟩
/-- xs.index(x) -/
theorem ed_index {j : Nat} {z : D} (ho : EvD K M ta τ (.lst ds)) (h : EvD K M te τ d) (n1 : noDs ds = true) (n2 : noD d = true) (s1 : SeqAt.shaped (.list (toPs ds)) = true) (s2 : SeqAt.shaped (toP d) = true)
    (hz : (toPs ds)[j]? = some (toP z)) (hzj : PyData.eqv (toP z) (toP d) = true) (hno : ∀ (m : Nat) (z' : PyData), m < j → (toPs ds)[m]? = some z' → PyData.eqv z' (toP d) = false) :
    EvD K M (tBM K "list" (rIndexD K) ta (tCons te tNil)) τ (.int (j : Int)) := fun σ H r Q q => ho σ H r _ fun v H1 e1 p1 => by
  obtain ⟨a, vs, rfl, na, h3, h4⟩ := p1.lst_inv
  refine ⟨.inl ⟨rfl, vs, .inl (.inl h3)⟩, h σ H1 (r.mono e1) _ fun y H2 e2 p2 => ?_⟩
  have hl : Rp K M H2 (.lst ds) (.ref a) := p1.mono e2.of0
  have hl' := hl.dp (show noD (.lst ds) = true by unfold noD; exact n1)
  unfold toP at hl'
  exact ⟨a, y, toP d, toPs ds, j, toP z, rfl, rfl, hl', p2.dp n2, s1, s2, hz, hzj, hno, q _ H2 (e1.trans e2) (Rp.int _)⟩
theorem ed_dnewK : EvD K M tDNewK τ (.dk [] []) := fun σ H r Q q p hp => q _ _ (Le.new hp) (Rp.dk (not_M r.tr hp) upd_same rfl RpL.nil)
/-- a list unpacked -/
theorem gd_lst {gs : TGs} {n : Nat} (h : GsD K M gs ds τ τ') (hn : ds.length = n) : GD K M (gLstT K n gs) (.lst ds) τ τ' := fun v σ H r p Q q => by
  obtain ⟨a, vs, rfl, _, h3, h4⟩ := p.lst_inv
  exact ⟨a, vs, rfl, .inl (.inl h3), by rw [h4.len]; exact hn, h vs σ H r h4 Q q⟩
/-! ### displays with ** -/
theorem hp_len {ws : List (List Key × V)} {ks : List (List Key)} (h : ws.map (·.1) = ks) : ws.length = ks.length := by rw [← h, List.length_map]
theorem put_same {κ : Type} [DecidableEq κ] : ∀ {ws : List (κ × V)} {ds : List D} {k : κ} {z : V}, RpL K M H ds (ws.map (·.2)) → (∀ (i : Nat) (w : κ × V), ws[i]? = some w → w.1 = k → ds[i]? = some d) → Rp K M H d z →
    (ws.map fun kv => if kv.1 = k then (kv.1, z) else kv).map (·.1) = ws.map (·.1) ∧ RpL K M H ds ((ws.map fun kv => if kv.1 = k then (kv.1, z) else kv).map (·.2))
  | [], ds, k, z, h, _, _ => ⟨rfl, h⟩
  | w :: ws, [], k, z, h, _, _ => by cases h.inv0
  | w :: ws, d0 :: ds, k, z, h, hd, hz => by
    obtain ⟨v, r, e1, q, t⟩ := h.inv
    rw [List.map_cons] at e1
    injection e1 with e2 e3
    subst e3
    obtain ⟨i1, i2⟩ := put_same (k := k) (z := z) t (fun i w hw e => by simpa using hd (i + 1) w (by simpa using hw) e) hz
    by_cases e : w.1 = k
    · have ed : d0 = d := by simpa using hd 0 w rfl e
      subst ed
      simp only [List.map_cons, if_pos e]
      exact ⟨congrArg _ i1, RpL.cons hz i2⟩
    · simp only [List.map_cons, if_neg e]
      exact ⟨congrArg _ i1, RpL.cons (e2 ▸ q) i2⟩
def putKs {κ : Type} [DecidableEq κ] (ks : List κ) (k : κ) : List κ := if k ∈ ks then ks else ks ++ [k]
def putDs {κ : Type} [DecidableEq κ] (ks : List κ) (ds : List D) (k : κ) (d : D) : List D := if k ∈ ks then ds else ds ++ [d]
theorem put_rp {κ : Type} [DecidableEq κ] {ws : List (κ × V)} {ks : List κ} {ds : List D} {k : κ} {z : V} (hk : ws.map (·.1) = ks) (h : RpL K M H ds (ws.map (·.2))) (hd : ∀ i : Nat, ks[i]? = some k → ds[i]? = some d) (hz : Rp K M H d z) :
    (putK ws k z).map (·.1) = putKs ks k ∧ RpL K M H (putDs ks ds k d) ((putK ws k z).map (·.2)) := by
  unfold putK putKs putDs
  by_cases hm : k ∈ ks
  · have ha : (ws.any fun kv => decide (kv.1 = k)) = true := by
      rw [← hk] at hm
      obtain ⟨w, hw, e⟩ := List.mem_map.mp hm
      exact List.any_eq_true.mpr ⟨w, hw, decide_eq_true e⟩
    rw [if_pos ha, if_pos hm, if_pos hm]
    obtain ⟨i1, i2⟩ := put_same (k := k) (z := z) h (fun i w hw e => hd i (by rw [← hk, List.getElem?_map, hw]; exact congrArg some e)) hz
    exact ⟨i1.trans hk, i2⟩
  · have ha : ¬ (ws.any fun kv => decide (kv.1 = k)) = true := fun z => by
      obtain ⟨w, hw, e⟩ := List.any_eq_true.mp z
      exact hm (by rw [← hk]; exact List.mem_map.mpr ⟨w, hw, of_decide_eq_true e⟩)
    rw [if_neg ha, if_neg hm, if_neg hm, List.map_append, List.map_append, hk]
    exact ⟨rfl, h.append (RpL.cons hz RpL.nil)⟩
theorem ed_putT {Pg : Program} {w : World} {ks : List (List Key)} {k : List Key} (he : ∀ M, EvD K M te τ (.dt ks ds)) (hk : ∀ M, EvD K M tk τ (keyD k)) (hv : ∀ M, EvD K M tv τ d) (hap : Apart Pg w ks) (hz : ks.length < 100000)
    (hd : ∀ i : Nat, ks[i]? = some k → ds[i]? = some d) : EvD K M (tPutT Pg w te tk tv) τ (.dt (putKs ks k) (putDs ks ds k d)) := fun σ H r Q q p hp => by
  have r1 : Rel K (fun a => M a ∨ a = p) (upd H p (.dT [])) σ τ := r.add hp
  refine he _ σ _ r1 _ fun x H1 e1 p1 => ?_
  obtain ⟨o, kvs, rfl, no, ho, hks, hrp⟩ := p1.dt_inv
  have hp1 : H1 p = some (.dT []) := e1 p _ (fun z => z) upd_same
  have hl : kvs.length = ks.length := hp_len hks
  refine ⟨o, kvs, rfl, fun z => no (.inr z), .inl ho, hp1, by rw [hks]; exact hap, by rw [hl]; exact Nat.lt_of_lt_of_le hz (by decide), fun s hs => ?_⟩
  have r2 : Rel K (fun a => M a ∨ a = p) (upd H1 p (.dT kvs)) σ τ := (r1.mono e1).put (.inr rfl)
  have r3 : Rel K (fun a => (M a ∨ a = p) ∨ a = s) (upd (upd H1 p (.dT kvs)) s (.dT [])) σ τ := r2.add hs
  refine hk _ σ _ r3 _ fun y H2 e2 p2 => hv _ σ H2 (r3.mono e2) _ fun z H3 e3 p3 => ?_
  obtain ⟨b, rfl, hb⟩ := keyD_inv p2
  have hsp : p ≠ s := fun z => by rw [← z, upd_same] at hs; cases hs
  have hs3 : H3 s = some (.dT []) := e3 s _ (fun z => z) (e2 s _ (fun z => z) upd_same)
  have hp3 : H3 p = some (.dT kvs) := e3 p _ (fun z => z) (e2 p _ (fun z => z) (by rw [upd_ne hsp, upd_same]))
  refine ⟨k, b, rfl, e3 b _ (fun z => z) hb, hs3, hp3, ?_⟩
  have l13 : Le (fun a => M a ∨ a = p) H1 (upd (upd H3 s (.dT [(k, z)])) p (.dT (putK kvs k z))) := fun a u n h => by
    have h1 : upd H1 p (.dT kvs) a = some u := by rw [upd_ne (fun z => n (.inr z))]; exact h
    have has : a ≠ s := ne_of_none h1 hs
    rw [upd_ne (fun z => n (.inr z)), upd_ne has]
    exact e3 a u (fun z => z) (e2 a u (fun z => z) (by rw [upd_ne has]; exact h1))
  have l3 : Le (fun a => (M a ∨ a = p) ∨ a = s) H3 (upd (upd H3 s (.dT [(k, z)])) p (.dT (putK kvs k z))) := fun a u n h => by
    rw [upd_ne (fun z => n (.inl (.inr z))), upd_ne (fun z => n (.inr z))]
    exact h
  obtain ⟨g1, g2⟩ := put_rp (M := M) (z := z) hks (RpL.weak (fun _ m => .inl m) (hrp.mono l13)) hd (Rp.weak (fun _ m => .inl (.inl m)) (p3.mono l3))
  refine q _ _ (fun a u n h => ?_) (Rp.dt (not_M r.tr hp) upd_same g1 g2)
  have hap' : a ≠ p := ne_of_none h hp
  have h0 : H1 a = some u := e1 a u (fun z => z) (by rw [upd_ne hap']; exact h)
  have h1 : upd H1 p (.dT kvs) a = some u := by rw [upd_ne hap']; exact h0
  have has : a ≠ s := ne_of_none h1 hs
  rw [upd_ne hap', upd_ne has]
  exact e3 a u (fun z => z) (e2 a u (fun z => z) (by rw [upd_ne has]; exact h1))
theorem ed_putK {ks : List Key} {k : Key} (he : ∀ M, EvD K M te τ (.dk ks ds)) (hk : ∀ M, EvD K M tk τ (kD k)) (hv : ∀ M, EvD K M tv τ d) (hap : ks.Nodup) (hz : ks.length < 100000)
    (hd : ∀ i : Nat, ks[i]? = some k → ds[i]? = some d) : EvD K M (tPutK te tk tv) τ (.dk (putKs ks k) (putDs ks ds k d)) := fun σ H r Q q p hp => by
  have r1 : Rel K (fun a => M a ∨ a = p) (upd H p (.dK [])) σ τ := r.add hp
  refine he _ σ _ r1 _ fun x H1 e1 p1 => ?_
  obtain ⟨o, kvs, rfl, no, ho, hks, hrp⟩ := p1.dk_inv
  have hp1 : H1 p = some (.dK []) := e1 p _ (fun z => z) upd_same
  have hl : kvs.length = ks.length := by rw [← hks, List.length_map]
  refine ⟨o, kvs, rfl, fun z => no (.inr z), .inl ho, hp1, by rw [hks]; exact hap, by rw [hl]; exact Nat.lt_of_lt_of_le hz (by decide), fun s hs => ?_⟩
  have r2 : Rel K (fun a => M a ∨ a = p) (upd H1 p (.dK kvs)) σ τ := (r1.mono e1).put (.inr rfl)
  have r3 : Rel K (fun a => (M a ∨ a = p) ∨ a = s) (upd (upd H1 p (.dK kvs)) s (.dK [])) σ τ := r2.add hs
  refine hk _ σ _ r3 _ fun y H2 e2 p2 => hv _ σ H2 (r3.mono e2) _ fun z H3 e3 p3 => ?_
  obtain rfl := kD_inv p2
  have hsp : p ≠ s := fun z => by rw [← z, upd_same] at hs; cases hs
  have hs3 : H3 s = some (.dK []) := e3 s _ (fun z => z) (e2 s _ (fun z => z) upd_same)
  have hp3 : H3 p = some (.dK kvs) := e3 p _ (fun z => z) (e2 p _ (fun z => z) (by rw [upd_ne hsp, upd_same]))
  refine ⟨k, rfl, hs3, hp3, ?_⟩
  have l13 : Le (fun a => M a ∨ a = p) H1 (upd (upd H3 s (.dK [(k, z)])) p (.dK (putK kvs k z))) := fun a u n h => by
    have h1 : upd H1 p (.dK kvs) a = some u := by rw [upd_ne (fun z => n (.inr z))]; exact h
    have has : a ≠ s := ne_of_none h1 hs
    rw [upd_ne (fun z => n (.inr z)), upd_ne has]
    exact e3 a u (fun z => z) (e2 a u (fun z => z) (by rw [upd_ne has]; exact h1))
  have l3 : Le (fun a => (M a ∨ a = p) ∨ a = s) H3 (upd (upd H3 s (.dK [(k, z)])) p (.dK (putK kvs k z))) := fun a u n h => by
    rw [upd_ne (fun z => n (.inl (.inr z))), upd_ne (fun z => n (.inr z))]
    exact h
  obtain ⟨g1, g2⟩ := put_rp (M := M) (z := z) hks (RpL.weak (fun _ m => .inl m) (hrp.mono l13)) hd (Rp.weak (fun _ m => .inl (.inl m)) (p3.mono l3))
  refine q _ _ (fun a u n h => ?_) (Rp.dk (not_M r.tr hp) upd_same g1 g2)
  have hap' : a ≠ p := ne_of_none h hp
  have h0 : H1 a = some u := e1 a u (fun z => z) (by rw [upd_ne hap']; exact h)
  have h1 : upd H1 p (.dK kvs) a = some u := by rw [upd_ne hap']; exact h0
  have has : a ≠ s := ne_of_none h1 hs
  rw [upd_ne hap', upd_ne has]
  exact e3 a u (fun z => z) (e2 a u (fun z => z) (by rw [upd_ne has]; exact h1))
/-- the first of the two dicts takes the second's entries, one after the other -/
def mergeKD : List (List Key) → List D → List (List Key) → List D → List (List Key) × List D
  | ks, ds, k :: ks', d :: ds' => mergeKD (putKs ks k) (putDs ks ds k d) ks' ds'
  | ks, ds, _, _ => (ks, ds)
/-- an entry put again is as it was -/
def Agree : List (List Key) → List D → List (List Key) → List D → Prop
  | ks, ds, k :: ks', d :: ds' => (∀ i : Nat, ks[i]? = some k → ds[i]? = some d) ∧ Agree (putKs ks k) (putDs ks ds k d) ks' ds'
  | _, _, _, _ => True
theorem merge_rp : ∀ {more : List (List Key × V)} {ks' : List (List Key)} {ds' : List D} {ws : List (List Key × V)} {ks : List (List Key)} {ds : List D}, more.map (·.1) = ks' → RpL K M H ds' (more.map (·.2)) → ws.map (·.1) = ks → RpL K M H ds (ws.map (·.2)) → Agree ks ds ks' ds' →
    (mergeT ws more).map (·.1) = (mergeKD ks ds ks' ds').1 ∧ RpL K M H (mergeKD ks ds ks' ds').2 ((mergeT ws more).map (·.2))
  | [], ks', ds', ws, ks, ds, h1, h2, h3, h4, _ => by
    subst h1
    have : mergeKD ks ds (([] : List (List Key × V)).map (·.1)) ds' = (ks, ds) := by unfold mergeKD; rfl
    rw [this]
    exact ⟨h3, h4⟩
  | m :: more, ks', [], ws, ks, ds, h1, h2, h3, h4, _ => by cases h2.inv0
  | m :: more, ks', d :: ds', ws, ks, ds, h1, h2, h3, h4, ha => by
    subst h1
    obtain ⟨v, r, e1, q, t⟩ := h2.inv
    rw [List.map_cons] at e1
    injection e1 with e2 e3
    subst e3
    obtain ⟨a1, a2⟩ := ha
    obtain ⟨g1, g2⟩ := put_rp h3 h4 a1 (e2 ▸ q)
    have ih := merge_rp (more := more) (ks' := more.map (·.1)) (ds' := ds') rfl t g1 g2 a2
    have em : mergeKD ks ds ((m :: more).map (·.1)) (d :: ds') = mergeKD (putKs ks m.1) (putDs ks ds m.1 d) (more.map (·.1)) ds' := by
      rw [List.map_cons, mergeKD]
    rw [em]
    exact ih
theorem ed_twoT {Pg : Program} {w : World} {ks ks' : List (List Key)} {ds' : List D} (he : ∀ M, EvD K M te τ (.dt ks ds)) (hf : ∀ M, EvD K M tk τ (.dt ks' ds')) (hap : Apart Pg w ks) (hap' : Apart Pg w ks') (hz : ks.length + ks'.length < 100000) (ha : Agree ks ds ks' ds') :
    EvD K M (tTwoT Pg w te tk) τ (.dt (mergeKD ks ds ks' ds').1 (mergeKD ks ds ks' ds').2) := fun σ H r Q q p hp => by
  have r1 : Rel K (fun a => M a ∨ a = p) (upd H p (.dT [])) σ τ := r.add hp
  refine he _ σ _ r1 _ fun x H1 e1 p1 => ?_
  obtain ⟨o, kvs, rfl, no, ho, hks, hrp⟩ := p1.dt_inv
  have hp1 : H1 p = some (.dT []) := e1 p _ (fun z => z) upd_same
  have hl : kvs.length = ks.length := hp_len hks
  have hsl : (100000 : Nat) ≤ sizeLine := by decide
  refine ⟨o, kvs, rfl, fun z => no (.inr z), .inl ho, hp1, by rw [hks]; exact hap, by omega, ?_⟩
  have r2 : Rel K (fun a => M a ∨ a = p) (upd H1 p (.dT kvs)) σ τ := (r1.mono e1).put (.inr rfl)
  refine hf _ σ _ r2 _ fun y H2 e2 p2 => ?_
  obtain ⟨b, more, rfl, nb, hb, hks', hrp'⟩ := p2.dt_inv
  have hl' : more.length = ks'.length := hp_len hks'
  have hp2 : H2 p = some (.dT kvs) := e2 p _ (fun z => z) upd_same
  refine ⟨b, more, rfl, fun z => nb (.inr z), .inl hb, hp2, by rw [hks']; exact hap', by omega, ?_⟩
  have l2 : Le (fun a => M a ∨ a = p) H2 (upd H2 p (.dT (mergeT kvs more))) := fun a u n h => by
    rw [upd_ne (fun z => n (.inr z))]; exact h
  have l1 : Le (fun a => M a ∨ a = p) H1 (upd H2 p (.dT (mergeT kvs more))) := fun a u n h => by
    rw [upd_ne (fun z => n (.inr z))]
    exact e2 a u (fun z => z) (by rw [upd_ne (fun z => n (.inr z))]; exact h)
  obtain ⟨g1, g2⟩ := merge_rp (M := M) hks' (RpL.weak (fun _ m => .inl m) (hrp'.mono l2)) hks (RpL.weak (fun _ m => .inl m) (hrp.mono l1)) ha
  refine q _ _ (fun a u n h => ?_) (Rp.dt (not_M r.tr hp) upd_same g1 g2)
  have hap' : a ≠ p := ne_of_none h hp
  rw [upd_ne hap']
  exact e2 a u (fun z => z) (by rw [upd_ne hap']; exact e1 a u (fun z => z) (by rw [upd_ne hap']; exact h))
/-- dict([(key, value), ..]) -/
theorem pairs_rp : ∀ {ks : List (List Key)} {ds : List D} {vs : List V}, ks.length = ds.length → RpL K M H ((ks.zip ds).map fun kd => D.tup [keyD kd.1, kd.2]) vs →
    ∃ (ps : List Addr) (kvs : List (List Key × V)), vs = ps.map V.ref ∧ Paired (fun p kv => ∃ b, SqT K H p [.ref b, kv.2] ∧ H b = some (.tup (kv.1.map kV))) ps kvs ∧ kvs.map (·.1) = ks ∧ RpL K M H ds (kvs.map (·.2))
  | [], [], vs, _, h => ⟨[], [], h.inv0, .nil, rfl, RpL.nil⟩
  | [], _ :: _, _, e, _ => by cases e
  | _ :: _, [], _, e, _ => by cases e
  | k :: ks, d :: ds, vs, e, h => by
    obtain ⟨v, r, rfl, q, t⟩ := h.inv
    obtain ⟨ps, kvs, rfl, h2, h3, h4⟩ := pairs_rp (by simpa using e) t
    obtain ⟨a, ws, rfl, _, g3, g4⟩ := q.tup_inv
    obtain ⟨x, r1, rfl, q1, t1⟩ := g4.inv
    obtain ⟨y, r2, rfl, q2, t2⟩ := t1.inv
    have e0 := t2.inv0
    subst e0
    obtain ⟨b, rfl, hb⟩ := keyD_inv q1
    exact ⟨a :: ps, (k, y) :: kvs, rfl, .cons ⟨b, .inl (.inl g3), hb⟩ h2, congrArg _ h3, RpL.cons q2 h4⟩
theorem rc_dictT {ks : List (List Key)} (e : ks.length = ds.length) (ha : Agree [] [] ks ds) : RcD K M (rDictT K) [.lst ((ks.zip ds).map fun kd => D.tup [keyD kd.1, kd.2])] (.dt (mergeKD [] [] ks ds).1 (mergeKD [] [] ks ds).2) := fun vs H tr h Q q => by
  obtain ⟨v, r, rfl, p, t⟩ := h.inv
  rw [t.inv0]
  obtain ⟨a, ws, rfl, _, h3, h4⟩ := p.lst_inv
  obtain ⟨ps, kvs, rfl, g2, g3, g4⟩ := pairs_rp e h4
  refine ⟨a, ps, kvs, rfl, .inl (.inl h3), g2, fun p hp => ?_⟩
  obtain ⟨f1, f2⟩ := merge_rp (ws := []) (ks := []) (ds := []) g3 (g4.mono (Le.new (o := .dT (mergeT [] kvs)) hp).of0) rfl RpL.nil ha
  exact q _ _ (Le.new hp) (Rp.dt (not_M tr hp) upd_same f1 f2)
/-- sorted(xs) -/
theorem rpl_zip : ∀ {ds : List D} {vs : List V}, RpL K M H ds vs → (vs.zip ds).map (·.1) = vs ∧ (vs.zip ds).map (·.2) = ds ∧ ∀ b ∈ vs.zip ds, Rp K M H b.2 b.1
  | [], _, h => by rw [h.inv0]; exact ⟨rfl, rfl, fun b hb => nomatch hb⟩
  | d :: ds, _, h => by
    obtain ⟨v, r, rfl, q, t⟩ := h.inv
    obtain ⟨h1, h2, h3⟩ := rpl_zip t
    refine ⟨congrArg _ h1, congrArg _ h2, fun b hb => ?_⟩
    rcases List.mem_cons.mp hb with e | hb
    · subst e; exact q
    · exact h3 b hb
theorem rpl_of : ∀ {bs : List (V × D)}, (∀ b ∈ bs, Rp K M H b.2 b.1) → RpL K M H (bs.map (·.2)) (bs.map (·.1))
  | [], _ => RpL.nil
  | b :: bs, h => RpL.cons (h b List.mem_cons_self) (rpl_of fun x hx => h x (List.mem_cons_of_mem _ hx))
theorem rc_sortD (hn : ∀ d ∈ ds, noD d = true) (hal : PySem.W.AllAlike (ds.map toP)) (hs : PySem.W.Sortable (ds.map toP)) (hdep : ∀ d ∈ ds, (toP d).depth ≤ 8) :
    RcD K M (rSortD K) [.lst ds] (.lst (ds.mergeSort (PySem.W.dataLe false toP))) := fun vs H tr h Q q => by
  obtain ⟨v, r, rfl, p, t⟩ := h.inv
  rw [t.inv0]
  obtain ⟨a, ws, rfl, _, h3, h4⟩ := p.lst_inv
  obtain ⟨g1, g2, g3⟩ := rpl_zip h4
  have em : (ws.zip ds).map (fun b => toP b.2) = ds.map toP := by
    have : (ws.zip ds).map (fun b => toP b.2) = ((ws.zip ds).map (·.2)).map toP := by rw [List.map_map]; rfl
    rw [this, g2]
  have mem : ∀ b ∈ ws.zip ds, b.2 ∈ ds := fun b hb => by
    rw [← g2]
    exact List.mem_map.mpr ⟨b, hb, rfl⟩
  refine ⟨a, ws.zip ds, rfl, by rw [g1]; exact .inl (.inl h3), fun b hb => (g3 b hb).dp (hn _ (mem b hb)), by rw [em]; exact hal, by rw [em]; exact hs, fun b hb => hdep _ (mem b hb), fun p hp => ?_⟩
  have ed : ((ws.zip ds).mergeSort (PySem.W.dataLe false fun b => toP b.2)).map (·.2) = ds.mergeSort (PySem.W.dataLe false toP) := by
    have := List.map_mergeSort (f := fun b : V × D => b.2) (r := PySem.W.dataLe false fun b : V × D => toP b.2) (s := PySem.W.dataLe false toP) (l := ws.zip ds) (fun _ _ _ _ => rfl)
    rw [this, g2]
  have hr : RpL K M H (ds.mergeSort (PySem.W.dataLe false toP)) (((ws.zip ds).mergeSort (PySem.W.dataLe false fun b => toP b.2)).map (·.1)) := by
    rw [← ed]
    exact rpl_of fun b hb => g3 b ((List.mergeSort_perm _ _).mem_iff.mp hb)
  exact q _ _ (Le.new hp) (Rp.lst (not_M tr hp) upd_same (hr.mono (Le.new hp).of0))
/-! ### enumerate -/
theorem wd_enumT {ia ib : Nat} {body : TS} {xs : List D} (h : EaD K M tl τ [.tup xs]) (I : Nat → Tau → Prop) (h0 : I 0 τ)
    (hs : ∀ (i : Nat) x τ1, xs[i]? = some x → I i τ1 → WD K M body (I (i + 1)) rt ((τ1.set ia (some (.int (i : Int)))).set ib (some x))) (hd : ∀ τ1, I xs.length τ1 → nx τ1) :
    WD K M (tFor (iEnumT K tl) (gTup K 2 (gCons (gName ia) (gCons (gName ib) gNil))) body) nx rt τ := fun En σ H r kn kr =>
  h σ H r _ fun vs H1 e1 p1 => by
    obtain ⟨v, rr, rfl, q1, t1⟩ := p1.inv
    rw [t1.inv0]
    obtain ⟨a, ws, rfl, n1, h3, h4⟩ := q1.tup_inv
    refine ⟨a, ws, rfl, .inl (.inl h3), ?_⟩
    have sq : ∀ {H'}, Le0 H1 H' → SqT K H' a ws := fun l => .inl (.inl (l a _ (fun z => z) h3))
    refine ⟨fun i m σ' H' => m = xs.length - i ∧ i ≤ xs.length ∧ ∃ τ1, Le0 H1 H' ∧ Rel K M H' σ' τ1 ∧ I i τ1, ⟨xs.length, by simp, Nat.zero_le _, τ, Le.refl _ _, r.mono e1, h0⟩, ?_⟩
    rintro i m σ' H' ⟨rfl, hi, τ1, l, r1, hI⟩
    by_cases hlt : i < xs.length
    · obtain ⟨v, hv, pv⟩ := h4.get (List.getElem?_eq_getElem hlt)
      refine .inr ⟨⟨ws, v, sq l, hv⟩, fun σ2 H2 => ∃ τ2, Le0 H1 H2 ∧ Rel K M H2 σ2 τ2 ∧ I (i + 1) τ2, fun σ2 H2 z => ⟨xs.length - (i + 1), by omega, rfl, hlt, z⟩, ?_⟩
      rintro x H2 ⟨T, x0, rfl, hT, rfl, hx⟩
      have ex : x0 = v := by
        have := hx ws (sq l)
        rw [hv] at this
        exact (Option.some.inj this).symm
      subst ex
      have l2 : Le0 H' (upd H' T (.tup [.int (i : Nat), x0])) := Le.new hT
      refine ⟨T, [.int (i : Nat), x0], rfl, .inl (.inl upd_same), rfl, _, [x0], rfl, x0, [], rfl, rfl, ?_⟩
      refine hs i _ τ1 (List.getElem?_eq_getElem hlt) hI _ _ _ (((r1.mono l2).set ia (Rp.int _)).set ib (pv.mono (l.trans l2).of0)) (fun σ3 H3 τ3 l3 r3 i3 => ⟨τ3, l.trans (l2.trans l3), r3, i3⟩) fun v3 H3 d3 l3 p3 q3 => kr v3 H3 d3 (e1.trans (l.trans (l2.trans l3))) p3 q3
    · have : i = xs.length := by omega
      subst this
      exact .inl ⟨⟨ws, sq l, by rw [h4.len]; exact Nat.le_refl _⟩, kn σ' H' τ1 (e1.trans l) r1 (hd τ1 hI)⟩
/-! ### a dict that is walked -/
mutual
def noK : D → Bool
  | .tup ds => noKs ds
  | .lst ds => noKs ds
  | .dt _ ds => noKs ds
  | .dk _ _ => false
  | .dkz _ _ => false
  | _ => true
def noKs : List D → Bool
  | [] => true
  | d :: ds => noK d && noKs ds
end
mutual
theorem Rp.chg (c1 : ∀ a xs, H a = some (.tup xs) → H' a = some (.tup xs)) (c2 : ∀ a xs, H a = some (.lst xs) → H' a = some (.lst xs)) (c3 : ∀ a xs, H a = some (.dT xs) → H' a = some (.dT xs)) : ∀ {d : D} {v : V}, noK d = true → Rp K M H d v → Rp K M H' d v
  | .non, _, _, h => by unfold Rp at h ⊢; exact h
  | .bl _, _, _, h => by unfold Rp at h ⊢; exact h
  | .int _, _, _, h => by unfold Rp at h ⊢; exact h
  | .str _, _, _, h => by unfold Rp at h ⊢; exact h
  | .ty _, _, _, h => by unfold Rp at h ⊢; exact h
  | .adr _, _, _, h => by unfold Rp at h ⊢; exact h
  | .con _, _, _, h => by unfold Rp at h ⊢; exact h
  | .tup ds, _, n, h => by
    unfold noK at n
    unfold Rp at h ⊢
    obtain ⟨a, vs, h1, h2, h3, h4⟩ := h
    exact ⟨a, vs, h1, h2, c1 _ _ h3, RpL.chg c1 c2 c3 n h4⟩
  | .lst ds, _, n, h => by
    unfold noK at n
    unfold Rp at h ⊢
    obtain ⟨a, vs, h1, h2, h3, h4⟩ := h
    exact ⟨a, vs, h1, h2, c2 _ _ h3, RpL.chg c1 c2 c3 n h4⟩
  | .dt ks ds, _, n, h => by
    unfold noK at n
    unfold Rp at h ⊢
    obtain ⟨a, vs, h1, h2, h3, h4, h5⟩ := h
    exact ⟨a, vs, h1, h2, c3 _ _ h3, h4, RpL.chg c1 c2 c3 n h5⟩
  | .dk _ _, _, n, _ => by unfold noK at n; cases n
  | .dkz _ _, _, n, _ => by unfold noK at n; cases n
theorem RpL.chg (c1 : ∀ a xs, H a = some (.tup xs) → H' a = some (.tup xs)) (c2 : ∀ a xs, H a = some (.lst xs) → H' a = some (.lst xs)) (c3 : ∀ a xs, H a = some (.dT xs) → H' a = some (.dT xs)) : ∀ {ds : List D} {vs : List V}, noKs ds = true → RpL K M H ds vs → RpL K M H' ds vs
  | [], _, _, h => by unfold RpL at h ⊢; exact h
  | d :: ds, _, n, h => by
    unfold noKs at n
    rw [Bool.and_eq_true] at n
    unfold RpL at h ⊢
    obtain ⟨v, r, h1, h2, h3⟩ := h
    exact ⟨v, r, h1, Rp.chg c1 c2 c3 n.1 h2, RpL.chg c1 c2 c3 n.2 h3⟩
end
theorem wd_keys {i0 j : Nat} {body : TS} {ks : List Key} (h : τ[i0]? = some (some (.dk ks ds))) (hk : noKs ds = true) (cl : ∀ (i : Nat) d, i ≠ i0 → τ[i]? = some (some d) → noK d = true) (I : Nat → Tau → Prop) (h0 : I 0 (τ.set i0 (some (.dkz ks ds))))
    (hs : ∀ (i : Nat) k τ1, ks[i]? = some k → I i τ1 → WD K M body (I (i + 1)) (fun _ => False) (τ1.set j (some (kD k))))
    (hi : ∀ (i : Nat) τ1, I i τ1 → τ1[i0]? = some (some (.dkz ks ds)))
    (hd : ∀ τ1, I ks.length τ1 → (∀ (i : Nat) d, i ≠ i0 → τ1[i]? = some (some d) → noK d = true) ∧ nx (τ1.set i0 none)) : WD K M (tLock (tFor (iKeys (tVar i0)) (gName j) body)) nx rt τ := fun En σ H r kn kr => by
  obtain ⟨v, hv, pv⟩ := r.at_ i0 _ h
  obtain ⟨a, ws, rfl, na, ha, hks, hrp⟩ := pv.dk_inv
  refine ⟨a, .dK ws, ha, True.intro, fun od => ?_⟩
  have hla : ∀ {b xs}, H b = some (.tup xs) → b ≠ a := fun h => ne_of h ha (by intro q; cases q)
  have hlb : ∀ {b xs}, H b = some (.lst xs) → b ≠ a := fun h => ne_of h ha (by intro q; cases q)
  have hlc : ∀ {b xs}, H b = some (.dT xs) → b ≠ a := fun h => ne_of h ha (by intro q; cases q)
  have r1 : Rel K M (upd H a (.frz od (.dK ws))) σ (τ.set i0 (some (.dkz ks ds))) := by
    refine ⟨fun b m => ?_, by rw [List.length_set]; exact r.len, fun i d q => ?_⟩
    · by_cases e : b = a
      · rw [e, upd_same]; intro z; cases z
      · rw [upd_ne e]; exact r.tr b m
    · rw [List.getElem?_set] at q
      by_cases e : i0 = i
      · subst e
        rw [if_pos rfl] at q
        split at q
        · have e1 : some (D.dkz ks ds) = some d := Option.some.inj q
          cases e1
          refine ⟨.ref a, hv, ?_⟩
          unfold Rp
          exact ⟨a, ws, rfl, na, .inr ⟨od, upd_same⟩, hks, RpL.chg (fun b xs h => by rw [upd_ne (hla h)]; exact h) (fun b xs h => by rw [upd_ne (hlb h)]; exact h) (fun b xs h => by rw [upd_ne (hlc h)]; exact h) hk hrp⟩
        · cases q
      · rw [if_neg e] at q
        obtain ⟨v, g1, g2⟩ := r.at_ i d q
        exact ⟨v, g1, Rp.chg (fun b xs h => by rw [upd_ne (hla h)]; exact h) (fun b xs h => by rw [upd_ne (hlb h)]; exact h) (fun b xs h => by rw [upd_ne (hlc h)]; exact h) (cl i d (fun z => e z.symm) q) g2⟩
  have hl : ws.length = ks.length := by rw [← hks, List.length_map]
  have stay : ∀ {H'}, Le0 (upd H a (.frz od (.dK ws))) H' → H' a = some (.frz od (.dK ws)) := fun l => l a _ (fun z => z) upd_same
  refine ⟨.ref a, hv, a, od, rfl, .inl ⟨ws, upd_same, ?_⟩⟩
  refine ⟨fun i m σ' H' => m = ks.length - i ∧ i ≤ ks.length ∧ ∃ τ1, Le0 (upd H a (.frz od (.dK ws))) H' ∧ Rel K M H' σ' τ1 ∧ I i τ1, ⟨ks.length, by simp, Nat.zero_le _, _, Le.refl _ _, r1, h0⟩, ?_⟩
  rintro i m σ' H' ⟨rfl, hi', τ1, l, rl, hI⟩
  by_cases hlt : i < ks.length
  · refine .inr ⟨⟨stay l, by omega⟩, fun σ2 H2 => ∃ τ2, Le0 (upd H a (.frz od (.dK ws))) H2 ∧ Rel K M H2 σ2 τ2 ∧ I (i + 1) τ2, fun σ2 H2 z => ⟨ks.length - (i + 1), by omega, rfl, hlt, z⟩, ?_⟩
    rintro x H2 ⟨rfl, k, v, hkv, rfl⟩
    have hkk : ks[i]? = some k := by rw [← hks, List.getElem?_map, hkv]; rfl
    have pk : Rp K M H2 (kD k) (kV k) := by
      cases k with
      | inl i => exact Rp.int i
      | inr s => exact Rp.str s
    exact hs i k τ1 hkk hI _ _ H2 (rl.set j pk) (fun σ3 H3 τ3 l3 r3 i3 => ⟨τ3, l.trans l3, r3, i3⟩) fun v3 H3 d3 l3 p3 q3 => q3.elim
  · have : i = ks.length := by omega
    subst this
    refine .inl ⟨⟨stay l, by omega⟩, stay l, ?_⟩
    obtain ⟨c, n⟩ := hd τ1 hI
    have hz := stay l
    have nla : ∀ {b xs}, H' b = some (.tup xs) → b ≠ a := fun h => ne_of h hz (by intro q; cases q)
    have nlb : ∀ {b xs}, H' b = some (.lst xs) → b ≠ a := fun h => ne_of h hz (by intro q; cases q)
    have nlc : ∀ {b xs}, H' b = some (.dT xs) → b ≠ a := fun h => ne_of h hz (by intro q; cases q)
    refine kn σ' _ (τ1.set i0 none) (fun b u _ q => ?_) ⟨fun b m => ?_, by rw [List.length_set]; exact rl.len, fun i d q => ?_⟩ n
    · by_cases e : b = a
      · subst e
        rw [ha] at q
        rw [upd_same]
        exact q
      · rw [upd_ne e]
        exact l b u (fun z => z) (by rw [upd_ne e]; exact q)
    · by_cases e : b = a
      · rw [e, upd_same]; intro z; cases z
      · rw [upd_ne e]; exact rl.tr b m
    · rw [List.getElem?_set] at q
      by_cases e : i0 = i
      · rw [if_pos e] at q
        split at q <;> cases q
      · rw [if_neg e] at q
        obtain ⟨v, g1, g2⟩ := rl.at_ i d q
        exact ⟨v, g1, Rp.chg (fun b xs h => by rw [upd_ne (nla h)]; exact h) (fun b xs h => by rw [upd_ne (nlb h)]; exact h) (fun b xs h => by rw [upd_ne (nlc h)]; exact h) (c i d (fun z => e z.symm) q) g2⟩
end
end PD
/-! The mathematics: routines, what their pairs come to, the least stack. No program in sight. -/
namespace Ma
abbrev Move := List Nat × List Nat × Option Nat
abbrev Routine := List (List Move)
abbrev Pair := Nat × Nat
/-- the end (none: rest), turns, marks, lines left -/
abbrev Entry := Option Nat × Nat × List Nat × List Nat
def getM (R : Routine) (p : Pair) : Move := (R.getD p.1 []).getD p.2 ([], [], none)
structure VM (n : Nat) (m : Move) : Prop where
  m1 : m.1.length ≤ 2
  m2 : ∀ x ∈ m.1, x < 3
  b1 : m.2.1.length ≤ 3
  b2 : ∀ x ∈ m.2.1, x < 3
  nx : ∀ p, m.2.2 = some p → p < n
structure VR (R : Routine) : Prop where
  lo : 1 ≤ R.length
  hi : R.length ≤ 6
  four : ∀ post ∈ R, post.length = 4
  mv : ∀ post ∈ R, ∀ m ∈ post, VM R.length m
inductive Res where
  | need (q : Pair)
  | told (e : Option Entry)
def loop (look : Pair → Option (Option Entry)) (back : List Nat) : Nat → Nat → Nat → List Nat → List Nat → Res
  | _, here, turns, marks, [] => .told (some (some here, turns, marks, []))
  | i, here, turns, marks, n :: ns => match look (here, n) with
    | none => .need (here, n)
    | some none => .told none
    | some (some (none, more, handed, left)) => .told (some (none, turns + more, (marks ++ handed).take 1001, left ++ back.drop (i + 1)))
    | some (some (some h, more, handed, _)) => loop look back (i + 1) h (turns + more) ((marks ++ handed).take 1001) ns
def needsOf (back : List Nat) (s : Nat) : List Nat := if s < 3 then back else back ++ [3]
def nextNeed (R : Routine) (look : Pair → Option (Option Entry)) (p : Pair) : Res :=
  match (getM R p).2.2 with
  | none => .told (some (none, 1, (getM R p).1, (getM R p).2.1))
  | some h => loop look (getM R p).2.1 0 h 1 (getM R p).1 (needsOf (getM R p).2.1 p.2)
def told1 : Res → Option Entry
  | .told (some e) => some e
  | _ => none
def pairStep (R : Routine) (look : Pair → Option Entry) (p : Pair) : Option Entry := told1 (nextNeed R (fun q => (look q).map some) p)
def pairsOf (n : Nat) : List Pair := (List.range n).flatMap fun p => [(p, 0), (p, 1), (p, 2), (p, 3)]
abbrev Tab := List (Pair × Entry)
def lk : Tab → Pair → Option Entry
  | [], _ => none
  | (k, e) :: t, q => if k = q then some e else lk t q
def stepT (R : Routine) (t : Tab) (q : Pair) : Tab := if (lk t q).isSome then t else match pairStep R (lk t) q with
  | some e => t ++ [(q, e)]
  | none => t
def roundT (R : Routine) (t : Tab) : Tab := (pairsOf R.length).foldl (stepT R) t
def rounds (R : Routine) : Nat → Tab
  | 0 => []
  | n + 1 => roundT R (rounds R n)
def lawTable (R : Routine) : Tab := rounds R (4 * R.length + 1)
def sem (R : Routine) : Pair → Option Entry := lk (lawTable R)

/-! ### the loop -/
theorem told1_some {r : Res} {e : Entry} (h : told1 r = some e) : r = .told (some e) := by
  cases r with
  | need q => cases h
  | told o =>
    cases o with
    | none => cases h
    | some e' => have : some e' = some e := h; rw [this]
theorem mem_pairs {n : Nat} {q : Pair} : q ∈ pairsOf n ↔ q.1 < n ∧ q.2 < 4 := by
  unfold pairsOf
  rw [List.mem_flatMap]
  constructor
  · rintro ⟨p, hp, hq⟩
    rw [List.mem_range] at hp
    simp only [List.mem_cons, List.not_mem_nil, or_false] at hq
    rcases hq with rfl | rfl | rfl | rfl <;> exact ⟨hp, by simp⟩
  · rintro ⟨h1, h2⟩
    refine ⟨q.1, List.mem_range.mpr h1, ?_⟩
    obtain ⟨a, b⟩ := q
    simp only at h1 h2
    have : b = 0 ∨ b = 1 ∨ b = 2 ∨ b = 3 := by omega
    rcases this with rfl | rfl | rfl | rfl <;> simp
theorem pairs_len (n : Nat) : (pairsOf n).length = 4 * n := by
  unfold pairsOf
  rw [List.length_flatMap]
  induction n with
  | zero => rfl
  | succ n ih =>
    rw [List.range_succ, List.map_append, List.sum_append, ih]
    simp
    omega
theorem len_le_of_sub {α : Type} [DecidableEq α] : ∀ {l m : List α}, l.Nodup → (∀ x ∈ l, x ∈ m) → l.length ≤ m.length
  | [], _, _, _ => Nat.zero_le _
  | a :: l, m, h, s => by
    rw [List.nodup_cons] at h
    have ha := s a List.mem_cons_self
    have := len_le_of_sub (l := l) (m := m.erase a) h.2 fun x hx => (List.mem_erase_of_ne (fun e => h.1 (by rw [← e]; exact hx))).mpr (s x (List.mem_cons_of_mem _ hx))
    rw [List.length_erase_of_mem ha] at this
    have hm : 0 < m.length := List.length_pos_of_mem ha
    rw [List.length_cons]
    omega
/-- the same way, with more known -/
theorem loop_mono {look look' : Pair → Option (Option Entry)} {back : List Nat} (h : ∀ q e, look q = some (some e) → look' q = some (some e)) : ∀ (ns : List Nat) (i here turns : Nat) (marks : List Nat) (e : Entry),
    loop look back i here turns marks ns = .told (some e) → loop look' back i here turns marks ns = .told (some e)
  | [], _, _, _, _, _, q => q
  | n :: ns, i, here, turns, marks, e, q => by
    unfold loop at q ⊢
    cases hl : look (here, n) with
    | none => rw [hl] at q; cases q
    | some o =>
      cases o with
      | none => rw [hl] at q; cases q
      | some en =>
        rw [h _ _ hl]
        rw [hl] at q
        obtain ⟨en1, more, handed, left⟩ := en
        cases en1 with
        | none => exact q
        | some hh => exact loop_mono h ns _ _ _ _ _ q
theorem loop_turns {look : Pair → Option (Option Entry)} {back : List Nat} : ∀ (ns : List Nat) (i here turns : Nat) (marks : List Nat) (e : Entry),
    loop look back i here turns marks ns = .told (some e) → turns ≤ e.2.1
  | [], _, _, _, _, _, q => by
    unfold loop at q
    injection q with q
    injection q with q
    rw [← q]
    exact Nat.le_refl _
  | n :: ns, i, here, turns, marks, e, q => by
    unfold loop at q
    cases hl : look (here, n) with
    | none => rw [hl] at q; cases q
    | some o =>
      cases o with
      | none => rw [hl] at q; cases q
      | some en =>
        rw [hl] at q
        obtain ⟨en1, more, handed, left⟩ := en
        cases en1 with
        | none =>
          injection q with q
          injection q with q
          rw [← q]
          exact Nat.le_add_right _ _
        | some hh => exact Nat.le_trans (Nat.le_add_right _ _) (loop_turns ns _ _ _ _ _ q)
/-- what is true of all entries -/
structure Fine (n b : Nat) (e : Entry) : Prop where
  pos : 1 ≤ e.2.1
  left : e.2.2.2.length ≤ b
  marks : e.2.2.1.length ≤ 1001
  nx : ∀ p, e.1 = some p → p < n
theorem loop_fine {n b : Nat} {look : Pair → Option (Option Entry)} {back : List Nat} (hb : back.length ≤ 3) (h : ∀ q e, look q = some (some e) → Fine n b e) : ∀ (ns : List Nat) (i here turns : Nat) (marks : List Nat) (e : Entry), here < n → 1 ≤ turns → marks.length ≤ 1001 →
    loop look back i here turns marks ns = .told (some e) → Fine n (b + 3) e
  | [], _, here, turns, marks, _, h1, h2, h3, q => by
    unfold loop at q
    injection q with q
    injection q with q
    rw [← q]
    exact ⟨h2, Nat.zero_le _, h3, fun p e => by cases e; exact h1⟩
  | k :: ns, i, here, turns, marks, e, h1, h2, h3, q => by
    unfold loop at q
    cases hl : look (here, k) with
    | none => rw [hl] at q; cases q
    | some o =>
      cases o with
      | none => rw [hl] at q; cases q
      | some en =>
        rw [hl] at q
        have f := h _ _ hl
        obtain ⟨en1, more, handed, left⟩ := en
        cases en1 with
        | none =>
          injection q with q
          injection q with q
          rw [← q]
          have f2 := f.left
          refine ⟨Nat.le_trans h2 (Nat.le_add_right _ _), ?_, List.length_take_le _ _, fun p e => nomatch e⟩
          show (left ++ back.drop (i + 1)).length ≤ b + 3
          rw [List.length_append, List.length_drop]
          simp only at f2
          omega
        | some hh => exact loop_fine hb h ns _ _ _ _ _ (f.nx hh rfl) (Nat.le_trans h2 (Nat.le_add_right _ _)) (List.length_take_le _ _) q
/-- a foot comes to a rest -/
theorem loop_foot {look : Pair → Option (Option Entry)} {back : List Nat} (h : ∀ p e, look (p, 3) = some (some e) → e.1 = none) : ∀ (ns : List Nat) (i here turns : Nat) (marks : List Nat) (e : Entry),
    loop look back i here turns marks (ns ++ [3]) = .told (some e) → e.1 = none
  | [], i, here, turns, marks, e, q => by
    rw [List.nil_append] at q
    unfold loop at q
    cases hl : look (here, 3) with
    | none => rw [hl] at q; cases q
    | some o =>
      cases o with
      | none => rw [hl] at q; cases q
      | some en =>
        rw [hl] at q
        have f := h _ _ hl
        obtain ⟨en1, more, handed, left⟩ := en
        simp only at f
        subst f
        injection q with q
        injection q with q
        rw [← q]
  | k :: ns, i, here, turns, marks, e, q => by
    rw [List.cons_append] at q
    unfold loop at q
    cases hl : look (here, k) with
    | none => rw [hl] at q; cases q
    | some o =>
      cases o with
      | none => rw [hl] at q; cases q
      | some en =>
        rw [hl] at q
        obtain ⟨en1, more, handed, left⟩ := en
        cases en1 with
        | none =>
          injection q with q
          injection q with q
          rw [← q]
        | some hh => exact loop_foot h ns _ _ _ _ _ q

/-! ### moves -/
theorem getM_valid {R : Routine} (v : VR R) {p : Pair} (h : p ∈ pairsOf R.length) : VM R.length (getM R p) ∧ R[p.1]? = some (R.getD p.1 []) ∧ (R.getD p.1 [])[p.2]? = some (getM R p) := by
  rw [mem_pairs] at h
  have h1 : R[p.1]? = some (R.getD p.1 []) := by
    rw [List.getD_eq_getElem?_getD, List.getElem?_eq_getElem h.1]; rfl
  have hm : R.getD p.1 [] ∈ R := List.mem_of_getElem? h1
  have hl := v.four _ hm
  have h2 : (R.getD p.1 [])[p.2]? = some (getM R p) := by
    unfold getM
    rw [List.getD_eq_getElem?_getD (l := R.getD p.1 []), List.getElem?_eq_getElem (by rw [hl]; exact h.2)]; rfl
  exact ⟨v.mv _ hm _ (List.mem_of_getElem? h2), h1, h2⟩
theorem needs_lt {back : List Nat} (h : ∀ x ∈ back, x < 3) (s : Nat) : ∀ x ∈ needsOf back s, x < 4 := by
  intro x hx
  unfold needsOf at hx
  split at hx
  · exact Nat.lt_succ_of_lt (h x hx)
  · rcases List.mem_append.mp hx with hx | hx
    · exact Nat.lt_succ_of_lt (h x hx)
    · rw [List.mem_singleton] at hx
      omega

/-! ### the table -/
theorem lk_append (t : Tab) (q k : Pair) (e : Entry) : lk (t ++ [(k, e)]) q = match lk t q with
    | some x => some x
    | none => if k = q then some e else none := by
  induction t with
  | nil => rfl
  | cons x t ih =>
    obtain ⟨j, y⟩ := x
    rw [List.cons_append]
    unfold lk
    by_cases hj : j = q
    · rw [if_pos hj, if_pos hj]
    · rw [if_neg hj, if_neg hj]
      exact ih
theorem lk_mem {t : Tab} {q : Pair} {e : Entry} (h : lk t q = some e) : q ∈ t.map (·.1) := by
  induction t with
  | nil => cases h
  | cons x t ih =>
    obtain ⟨j, y⟩ := x
    unfold lk at h
    by_cases hj : j = q
    · rw [List.map_cons, hj]; exact List.mem_cons_self
    · rw [if_neg hj] at h
      exact List.mem_cons_of_mem _ (ih h)
theorem lk_none {t : Tab} {q : Pair} (h : lk t q = none) : q ∉ t.map (·.1) := by
  induction t with
  | nil => simp
  | cons x t ih =>
    obtain ⟨j, y⟩ := x
    unfold lk at h
    by_cases hj : j = q
    · rw [if_pos hj] at h; cases h
    · rw [if_neg hj] at h
      rw [List.map_cons, List.mem_cons]
      rintro (e | e)
      · exact hj e.symm
      · exact ih h e
theorem step_mono {R : Routine} {look look' : Pair → Option Entry} (h : ∀ q e, look q = some e → look' q = some e) {p : Pair} {e : Entry} (q : pairStep R look p = some e) : pairStep R look' p = some e := by
  unfold pairStep nextNeed at *
  cases hm : (getM R p).2.2 with
  | none => rw [hm] at q; exact q
  | some hh =>
    rw [hm] at q
    have := told1_some q
    show told1 (loop _ _ _ _ _ _ _) = _
    rw [loop_mono (look' := fun q => (look' q).map some) (fun q' e' hq => ?_) _ _ _ _ _ _ this]
    · rfl
    · cases hl : look q' with
      | none => rw [hl] at hq; cases hq
      | some x =>
        rw [hl] at hq
        have : x = e' := by injection hq with hq; injection hq
        subst this
        rw [h _ _ hl]
        rfl
/-- a table that is as it should be, after so many entries -/
structure Tok (R : Routine) (t : Tab) : Prop where
  nd : (t.map (·.1)).Nodup
  sub : ∀ q ∈ t.map (·.1), q ∈ pairsOf R.length
  sound : ∀ q e, lk t q = some e → pairStep R (lk t) q = some e
  fine : ∀ q e, lk t q = some e → Fine R.length (3 * t.length) e
  foot : ∀ p e, lk t (p, 3) = some e → e.1 = none
theorem Fine.up {n a b : Nat} {e : Entry} (h : a ≤ b) (f : Fine n a e) : Fine n b e := ⟨f.pos, Nat.le_trans f.left h, f.marks, f.nx⟩
theorem step_fine {R : Routine} (v : VR R) {n b : Nat} {look : Pair → Option Entry} (hn : n = R.length) (h : ∀ q e, look q = some e → Fine n b e) {p : Pair} (hp : p ∈ pairsOf R.length) {e : Entry} (q : pairStep R look p = some e) : Fine n (b + 3) e := by
  obtain ⟨vm, _, _⟩ := getM_valid v hp
  subst hn
  unfold pairStep nextNeed at q
  cases hm : (getM R p).2.2 with
  | none =>
    rw [hm] at q
    have q' : (none, 1, (getM R p).1, (getM R p).2.1) = e := by injection q
    rw [← q']
    exact ⟨Nat.le_refl _, by have := vm.b1; simp only; omega, by have := vm.m1; simp only; omega, fun p e => nomatch e⟩
  | some hh =>
    rw [hm] at q
    refine loop_fine vm.b1 (fun q' e' hq => ?_) _ _ _ _ _ _ (vm.nx hh hm) (Nat.le_refl _) (by have := vm.m1; omega) (told1_some q)
    cases hl : look q' with
    | none => rw [hl] at hq; cases hq
    | some x =>
      rw [hl] at hq
      have : x = e' := by injection hq with hq; injection hq
      subst this
      exact h _ _ hl
theorem step_foot {R : Routine} {look : Pair → Option Entry} (h : ∀ p e, look (p, 3) = some e → e.1 = none) {p : Nat} {e : Entry} (q : pairStep R look (p, 3) = some e) : e.1 = none := by
  unfold pairStep nextNeed at q
  cases hm : (getM R (p, 3)).2.2 with
  | none =>
    rw [hm] at q
    have q' : (none, 1, (getM R (p, 3)).1, (getM R (p, 3)).2.1) = e := by injection q
    rw [← q']
  | some hh =>
    rw [hm] at q
    have e3 : needsOf (getM R (p, 3)).2.1 (p, 3).2 = (getM R (p, 3)).2.1 ++ [3] := rfl
    have q2 := told1_some q
    rw [e3] at q2
    refine loop_foot (fun p' e' hq => ?_) _ _ _ _ _ _ q2
    cases hl : look (p', 3) with
    | none => rw [hl] at hq; cases hq
    | some x =>
      rw [hl] at hq
      have : x = e' := by injection hq with hq; injection hq
      subst this
      exact h _ _ hl
theorem Tok.nil (R : Routine) : Tok R [] := ⟨List.nodup_nil, (fun q h => by cases h), (fun q e h => by cases h), (fun q e h => by cases h), (fun q e h => by cases h)⟩
theorem Tok.step {R : Routine} (v : VR R) {t : Tab} (k : Tok R t) {q : Pair} (hq : q ∈ pairsOf R.length) : Tok R (stepT R t q) := by
  unfold stepT
  by_cases hs : (lk t q).isSome = true
  · rw [if_pos hs]; exact k
  · rw [if_neg hs]
    have hn : lk t q = none := by
      cases h : lk t q with
      | none => rfl
      | some x => rw [h] at hs; exact absurd rfl hs
    cases hp : pairStep R (lk t) q with
    | none => exact k
    | some e =>
      have up : ∀ q' e', lk t q' = some e' → lk (t ++ [(q, e)]) q' = some e' := fun q' e' h => by rw [lk_append, h]
      have inv : ∀ q' e', lk (t ++ [(q, e)]) q' = some e' → lk t q' = some e' ∨ (q' = q ∧ e' = e) := fun q' e' h => by
        rw [lk_append] at h
        cases hl : lk t q' with
        | some x => rw [hl] at h; exact .inl h
        | none =>
          rw [hl] at h
          by_cases hqq : q = q'
          · have : some e = some e' := by simpa [if_pos hqq] using h
            exact .inr ⟨hqq.symm, (Option.some.inj this).symm⟩
          · simp [if_neg hqq] at h
      show Tok R (t ++ [(q, e)])
      refine ⟨?_, ?_, ?_, ?_, ?_⟩
      · rw [List.map_append, List.nodup_append]
        refine ⟨k.nd, by simp, ?_⟩
        intro a ha b hb
        simp only [List.map_cons, List.map_nil, List.mem_singleton] at hb
        subst hb
        exact fun z => lk_none hn (z ▸ ha)
      · intro q' h
        rw [List.map_append, List.mem_append] at h
        rcases h with h | h
        · exact k.sub q' h
        · simp only [List.map_cons, List.map_nil, List.mem_singleton] at h
          subst h
          exact hq
      · intro q' e' h
        rcases inv q' e' h with h | ⟨rfl, rfl⟩
        · exact step_mono up (k.sound q' e' h)
        · exact step_mono up hp
      · intro q' e' h
        rw [List.length_append, List.length_singleton]
        rcases inv q' e' h with h | ⟨rfl, rfl⟩
        · exact (k.fine q' e' h).up (by omega)
        · exact (step_fine v rfl k.fine hq hp).up (by omega)
      · intro p e' h
        rcases inv _ e' h with h | ⟨rfl, rfl⟩
        · exact k.foot p e' h
        · exact step_foot k.foot hp
theorem Tok.fold {R : Routine} (v : VR R) : ∀ {l : List Pair} {t : Tab}, (∀ q ∈ l, q ∈ pairsOf R.length) → Tok R t → Tok R (l.foldl (stepT R) t)
  | [], _, _, k => k
  | q :: l, t, h, k => Tok.fold (l := l) (t := stepT R t q) v (fun x hx => h x (List.mem_cons_of_mem _ hx)) (k.step v (h q List.mem_cons_self))
theorem Tok.rounds {R : Routine} (v : VR R) : ∀ n, Tok R (rounds R n)
  | 0 => Tok.nil R
  | n + 1 => Tok.fold v (fun _ h => h) (Tok.rounds v n)
theorem Tok.len {R : Routine} {t : Tab} (k : Tok R t) : t.length ≤ 4 * R.length := by
  have := len_le_of_sub k.nd k.sub
  rw [List.length_map, pairs_len] at this
  exact this
theorem stepT_len (R : Routine) (t : Tab) (q : Pair) : stepT R t q = t ∨ t.length < (stepT R t q).length := by
  unfold stepT
  split
  · exact .inl rfl
  · split
    · right; simp
    · exact .inl rfl
theorem foldT_len (R : Routine) : ∀ (l : List Pair) (t : Tab), (∀ q ∈ l, stepT R t q = t) ∧ l.foldl (stepT R) t = t ∨ t.length < (l.foldl (stepT R) t).length
  | [], t => .inl ⟨(fun q h => nomatch h), rfl⟩
  | q :: l, t => by
    rw [List.foldl_cons]
    rcases stepT_len R t q with h | h
    · rw [h]
      rcases foldT_len R l t with ⟨h1, h2⟩ | h1
      · refine .inl ⟨fun x hx => ?_, h2⟩
        rcases List.mem_cons.mp hx with e | hx
        · rw [e]; exact h
        · exact h1 x hx
      · exact .inr h1
    · rcases foldT_len R l (stepT R t q) with ⟨_, h2⟩ | h1
      · rw [h2]; exact .inr h
      · exact .inr (Nat.lt_trans h h1)
theorem rounds_closed (R : Routine) : ∀ n, (∀ q ∈ pairsOf R.length, stepT R (rounds R n) q = rounds R n) ∨ n ≤ (rounds R n).length
  | 0 => .inr (Nat.zero_le _)
  | n + 1 => by
    have e : rounds R (n + 1) = (pairsOf R.length).foldl (stepT R) (rounds R n) := rfl
    rcases foldT_len R (pairsOf R.length) (rounds R n) with ⟨h1, h2⟩ | h
    · left
      rw [e, h2]
      exact h1
    · rcases rounds_closed R n with h1 | h1
      · left
        have : rounds R (n + 1) = rounds R n := by
          rw [e]
          generalize rounds R n = t at h1
          clear e h
          have gen : ∀ l : List Pair, (∀ q ∈ l, stepT R t q = t) → l.foldl (stepT R) t = t := by
            intro l
            induction l with
            | nil => intro _; rfl
            | cons q l ih =>
              intro hl
              rw [List.foldl_cons, hl q List.mem_cons_self]
              exact ih fun x hx => hl x (List.mem_cons_of_mem _ hx)
          exact gen _ h1
        rw [this]
        exact h1
      · right
        rw [e]
        omega
/-! ### what pairs come to -/
section
variable {R : Routine} (v : VR R)
include v
theorem tok : Tok R (lawTable R) := Tok.rounds v _
theorem sem_sound {q : Pair} {e : Entry} (h : sem R q = some e) : pairStep R (sem R) q = some e := (tok v).sound q e h
theorem sem_closed {q : Pair} (hq : q ∈ pairsOf R.length) {e : Entry} (h : pairStep R (sem R) q = some e) : sem R q = some e := by
  have k := tok v
  have hc : ∀ q ∈ pairsOf R.length, stepT R (lawTable R) q = lawTable R := by
    rcases rounds_closed R (4 * R.length + 1) with h | h
    · exact h
    · have := k.len
      unfold lawTable at this
      omega
  have hs := hc q hq
  unfold stepT at hs
  by_cases hl : (lk (lawTable R) q).isSome = true
  · obtain ⟨e', he'⟩ := Option.isSome_iff_exists.mp hl
    have := k.sound q e' he'
    unfold sem at h ⊢
    rw [this] at h
    rw [he']
    exact h
  · rw [if_neg hl] at hs
    unfold sem at h
    rw [h] at hs
    have : (lawTable R ++ [(q, e)]).length = (lawTable R).length := congrArg _ hs
    simp at this
theorem sem_fine {q : Pair} {e : Entry} (h : sem R q = some e) : Fine R.length 72 e := by
  have k := tok v
  have := v.hi
  have := k.len
  exact (k.fine q e h).up (by omega)
theorem sem_pair {q : Pair} {e : Entry} (h : sem R q = some e) : q ∈ pairsOf R.length := (tok v).sub q (lk_mem h)
theorem sem_foot {p : Nat} {e : Entry} (h : sem R (p, 3) = some e) : e.1 = none := (tok v).foot p e h
end
/-- what is known is right -/
def Agr (R : Routine) (look : Pair → Option (Option Entry)) : Prop := ∀ q o, look q = some o → o = sem R q
/-- p needs q -/
def Needs (R : Routine) (p q : Pair) : Prop := ∀ e, sem R p = some e → ∃ e', sem R q = some e' ∧ e'.2.1 < e.2.1
theorem loop_agr {R : Routine} {look : Pair → Option (Option Entry)} (ha : Agr R look) {n : Nat} (hf : ∀ q e, sem R q = some e → 1 ≤ e.2.1 ∧ ∀ p, e.1 = some p → p < n) {back : List Nat} : ∀ (ns : List Nat) (i here turns : Nat) (marks : List Nat), here < n → (∀ x ∈ ns, x < 4) →
    match loop look back i here turns marks ns with
    | .told (some e) => loop (fun q => (sem R q).map some) back i here turns marks ns = .told (some e)
    | .told none => told1 (loop (fun q => (sem R q).map some) back i here turns marks ns) = none
    | .need q => look q = none ∧ q ∈ pairsOf n ∧ ∀ e, loop (fun q => (sem R q).map some) back i here turns marks ns = .told (some e) → ∃ e', sem R q = some e' ∧ turns + e'.2.1 ≤ e.2.1
  | [], i, here, turns, marks, _, _ => by
    unfold loop
    rfl
  | k :: ns, i, here, turns, marks, hh, hn => by
    rw [loop]
    cases hl : look (here, k) with
    | none =>
      show look (here, k) = none ∧ _
      refine ⟨hl, mem_pairs.mpr ⟨hh, hn k List.mem_cons_self⟩, fun e he => ?_⟩
      rw [loop] at he
      cases hs : sem R (here, k) with
      | none => rw [hs] at he; cases he
      | some en =>
        rw [hs] at he
        obtain ⟨en1, more, handed, left⟩ := en
        refine ⟨_, rfl, ?_⟩
        cases en1 with
        | none =>
          injection he with he
          injection he with he
          rw [← he]
          exact Nat.le_refl _
        | some h2 => exact loop_turns ns _ _ _ _ _ he
    | some o =>
      have hs := ha _ _ hl
      cases o with
      | none =>
        show told1 (loop _ _ _ _ _ _ (k :: ns)) = none
        rw [loop, ← hs]
        rfl
      | some en =>
        have hen := hf _ _ hs.symm
        obtain ⟨en1, more, handed, left⟩ := en
        cases en1 with
        | none =>
          show loop _ _ _ _ _ _ (k :: ns) = _
          rw [loop, ← hs]
          rfl
        | some h2 =>
          have ih := loop_agr ha hf (back := back) ns (i + 1) h2 (turns + more) ((marks ++ handed).take 1001) (hen.2 h2 rfl) fun x hx => hn x (List.mem_cons_of_mem _ hx)
          have es : loop (fun q => (sem R q).map some) back i here turns marks (k :: ns) = loop (fun q => (sem R q).map some) back (i + 1) h2 (turns + more) ((marks ++ handed).take 1001) ns := by
            rw [loop, ← hs]
            rfl
          show match loop look back (i + 1) h2 (turns + more) ((marks ++ handed).take 1001) ns with | .told (some e) => _ | .told none => _ | .need q => _
          rw [es]
          cases hr : loop look back (i + 1) h2 (turns + more) ((marks ++ handed).take 1001) ns with
          | need q =>
            rw [hr] at ih
            obtain ⟨i1, i2, i3⟩ := ih
            refine ⟨i1, i2, fun e he => ?_⟩
            obtain ⟨e', g1, g2⟩ := i3 e he
            exact ⟨e', g1, by omega⟩
          | told o =>
            rw [hr] at ih
            cases o with
            | none => exact ih
            | some e => exact ih
theorem next_told {R : Routine} (v : VR R) {look : Pair → Option (Option Entry)} (ha : Agr R look) {p : Pair} (hp : p ∈ pairsOf R.length) {o : Option Entry} (h : nextNeed R look p = .told o) : o = sem R p := by
  obtain ⟨vm, _, _⟩ := getM_valid v hp
  cases hm : (getM R p).2.2 with
  | none =>
    unfold nextNeed at h
    rw [hm] at h
    injection h with h
    rw [← h]
    refine (sem_closed v hp ?_).symm
    unfold pairStep nextNeed
    rw [hm]
    rfl
  | some hh =>
    unfold nextNeed at h
    rw [hm] at h
    have h' : loop look (getM R p).2.1 0 hh 1 (getM R p).1 (needsOf (getM R p).2.1 p.2) = .told o := h
    have := loop_agr ha (n := R.length) (fun q e hq => ⟨(sem_fine v hq).pos, (sem_fine v hq).nx⟩) (back := (getM R p).2.1) (needsOf (getM R p).2.1 p.2) 0 hh 1 (getM R p).1 (vm.nx hh hm) (needs_lt vm.b2 _)
    rw [h'] at this
    cases o with
    | some e =>
      refine (sem_closed v hp ?_).symm
      unfold pairStep nextNeed
      rw [hm]
      show told1 (loop _ _ _ _ _ _ _) = _
      rw [this]
      rfl
    | none =>
      cases hs : sem R p with
      | none => rfl
      | some e =>
        have q := sem_sound v hs
        unfold pairStep nextNeed at q
        rw [hm] at q
        have q' : told1 (loop (fun q => (sem R q).map some) (getM R p).2.1 0 hh 1 (getM R p).1 (needsOf (getM R p).2.1 p.2)) = some e := q
        rw [this] at q'
        cases q'
theorem next_need {R : Routine} (v : VR R) {look : Pair → Option (Option Entry)} (ha : Agr R look) {p : Pair} (hp : p ∈ pairsOf R.length) {q : Pair} (h : nextNeed R look p = .need q) : look q = none ∧ q ∈ pairsOf R.length ∧ Needs R p q := by
  obtain ⟨vm, _, _⟩ := getM_valid v hp
  cases hm : (getM R p).2.2 with
  | none =>
    unfold nextNeed at h
    rw [hm] at h
    cases h
  | some hh =>
    unfold nextNeed at h
    rw [hm] at h
    have h' : loop look (getM R p).2.1 0 hh 1 (getM R p).1 (needsOf (getM R p).2.1 p.2) = .need q := h
    have := loop_agr ha (n := R.length) (fun q e hq => ⟨(sem_fine v hq).pos, (sem_fine v hq).nx⟩) (back := (getM R p).2.1) (needsOf (getM R p).2.1 p.2) 0 hh 1 (getM R p).1 (vm.nx hh hm) (needs_lt vm.b2 _)
    rw [h'] at this
    obtain ⟨t1, t2, t3⟩ := this
    refine ⟨t1, t2, fun e he => ?_⟩
    have q := sem_sound v he
    unfold pairStep nextNeed at q
    rw [hm] at q
    obtain ⟨e', g1, g2⟩ := t3 e (told1_some q)
    exact ⟨e', g1, by omega⟩
/-! ### rings -/
theorem Needs.trans {R : Routine} {p q r : Pair} (a : Needs R p q) (b : Needs R q r) : Needs R p r := fun e he => by
  obtain ⟨e1, h1, h2⟩ := a e he
  obtain ⟨e2, h3, h4⟩ := b e1 h1
  exact ⟨e2, h3, Nat.lt_trans h4 h2⟩
theorem Needs.self {R : Routine} {p : Pair} (a : Needs R p p) : sem R p = none := by
  cases h : sem R p with
  | none => rfl
  | some e =>
    obtain ⟨e', h1, h2⟩ := a e h
    rw [h] at h1
    cases h1
    exact absurd h2 (Nat.lt_irrefl _)
def Chain (R : Routine) : List Pair → Prop
  | a :: b :: l => Needs R a b ∧ Chain R (b :: l)
  | _ => True
theorem Chain.snoc {R : Routine} {q : Pair} : ∀ {l : List Pair} (c : Chain R l) (_ : ∀ x, l.getLast? = some x → Needs R x q), Chain R (l ++ [q])
  | [], _, _ => True.intro
  | [a], _, h => ⟨h a rfl, True.intro⟩
  | a :: b :: l, c, h => ⟨c.1, Chain.snoc (l := b :: l) c.2 fun x hx => h x (by simpa using hx)⟩
theorem Chain.take {R : Routine} : ∀ {l : List Pair} (n : Nat), Chain R l → Chain R (l.take n)
  | [], _, _ => by simp [Chain]
  | [a], n, _ => by cases n <;> simp [Chain]
  | a :: b :: l, 0, _ => by simp [Chain]
  | a :: b :: l, 1, _ => by simp [Chain]
  | a :: b :: l, n + 2, c => ⟨c.1, Chain.take (l := b :: l) (n + 1) c.2⟩
theorem Chain.drop {R : Routine} : ∀ {l : List Pair} (n : Nat), Chain R l → Chain R (l.drop n)
  | [], _, _ => by simp [Chain]
  | [a], n, _ => by cases n <;> simp [Chain]
  | a :: b :: l, 0, c => c
  | a :: b :: l, n + 1, c => Chain.drop (l := b :: l) n c.2
theorem Chain.head {R : Routine} : ∀ {l : List Pair} {a : Pair}, Chain R (a :: l) → ∀ x ∈ l, Needs R a x
  | [], _, _, x, hx => nomatch hx
  | b :: l, a, c, x, hx => by
    rcases List.mem_cons.mp hx with e | hx
    · rw [e]; exact c.1
    · exact c.1.trans (Chain.head c.2 x hx)
theorem Chain.last {R : Routine} : ∀ {l : List Pair} {z : Pair}, Chain R l → l.getLast? = some z → ∀ x ∈ l, x = z ∨ Needs R x z
  | [], _, _, h, _, _ => by simp at h
  | [a], z, _, h, x, hx => by
    have h1 : a = z := by simpa using h
    have h2 : x = a := by simpa using hx
    exact .inl (h2.trans h1)
  | a :: b :: l, z, c, h, x, hx => by
    have h' : (b :: l).getLast? = some z := by simpa using h
    have hz : z ∈ b :: l := List.mem_of_getLast? h'
    rcases List.mem_cons.mp hx with e | hx
    · rw [e]; exact .inr (Chain.head c z hz)
    · exact Chain.last c.2 h' x hx
theorem ring {R : Routine} {l : List Pair} {a z : Pair} (c : Chain R (a :: l)) (hz : (a :: l).getLast? = some z) (h : Needs R z a) : ∀ x ∈ a :: l, sem R x = none := by
  have hzm : z ∈ a :: l := List.mem_of_getLast? hz
  intro x hx
  have h1 : x = z ∨ Needs R x z := Chain.last c hz x hx
  have h2 : Needs R x a := by
    rcases h1 with e | h1
    · rw [e]; exact h
    · exact h1.trans h
  rcases List.mem_cons.mp hx with e | hx
  · rw [← e] at h2; exact h2.self
  · exact (h2.trans (Chain.head c x hx)).self
end Ma
/-! The mathematics, further: the posts to which stacks lead, the least stack, and what the law asks of it. -/
namespace Ma
/-! ### stacks as numbers: shorter first, then in order -/
def code : List Nat → Nat
  | [] => 0
  | s :: w => (s + 1) * 5 ^ w.length + code w
theorem code_snoc : ∀ (w : List Nat) (s : Nat), code (w ++ [s]) = 5 * code w + s + 1
  | [], s => by simp [code]
  | t :: w, s => by
    show (t + 1) * 5 ^ (w ++ [s]).length + code (w ++ [s]) = 5 * ((t + 1) * 5 ^ w.length + code w) + s + 1
    rw [code_snoc w s, List.length_append, List.length_singleton, Nat.pow_succ]
    have : (t + 1) * (5 ^ w.length * 5) = 5 * ((t + 1) * 5 ^ w.length) := by
      rw [← Nat.mul_assoc, Nat.mul_comm]
    omega
theorem code_lt : ∀ {w : List Nat}, (∀ x ∈ w, x < 4) → code w < 5 ^ w.length
  | [], _ => by simp [code]
  | s :: w, h => by
    have h1 := code_lt (w := w) fun x hx => h x (List.mem_cons_of_mem _ hx)
    have h2 := h s List.mem_cons_self
    show (s + 1) * 5 ^ w.length + code w < 5 ^ (w.length + 1)
    rw [Nat.pow_succ]
    have : (s + 1) * 5 ^ w.length ≤ 4 * 5 ^ w.length := Nat.mul_le_mul_right _ (by omega)
    omega
theorem code_ge : ∀ w : List Nat, 5 ^ w.length ≤ 4 * code w + 1
  | [] => by simp [code]
  | s :: w => by
    have h1 := code_ge w
    show 5 ^ (w.length + 1) ≤ 4 * ((s + 1) * 5 ^ w.length + code w) + 1
    rw [Nat.pow_succ]
    have : 5 ^ w.length ≤ (s + 1) * 5 ^ w.length := Nat.le_mul_of_pos_left _ (Nat.succ_pos s)
    omega
theorem code_len {a b : List Nat} (ha : ∀ x ∈ a, x < 4) (h : a.length < b.length) : code a < code b := by
  have h1 := code_lt ha
  have h2 := code_ge b
  have h3 : 5 ^ (a.length + 1) ≤ 5 ^ b.length := Nat.pow_le_pow_right (by decide) h
  rw [Nat.pow_succ] at h3
  omega
theorem code_pre : ∀ (a b : List Nat), code a ≤ code (a ++ b)
  | [], b => by simp [code]
  | s :: a, b => by
    have h1 := code_pre a b
    show (s + 1) * 5 ^ a.length + code a ≤ (s + 1) * 5 ^ (a ++ b).length + code (a ++ b)
    have : 5 ^ a.length ≤ 5 ^ (a ++ b).length := Nat.pow_le_pow_right (by decide) (by rw [List.length_append]; omega)
    have := Nat.mul_le_mul_left (s + 1) this
    omega
theorem code_cons {s t : Nat} {a b : List Nat} (ha : ∀ x ∈ a, x < 4) (hb : ∀ x ∈ b, x < 4) (h : a.length = b.length) : code (s :: a) < code (t :: b) ↔ s < t ∨ (s = t ∧ code a < code b) := by
  show (s + 1) * 5 ^ a.length + code a < (t + 1) * 5 ^ b.length + code b ↔ _
  have h1 := code_lt ha
  have h2 := code_lt hb
  rw [h] at h1 ⊢
  constructor
  · intro q
    rcases Nat.lt_trichotomy s t with c | c | c
    · exact .inl c
    · subst c
      exact .inr ⟨rfl, by omega⟩
    · exfalso
      have : (t + 1 + 1) * 5 ^ b.length ≤ (s + 1) * 5 ^ b.length := Nat.mul_le_mul_right _ (by omega)
      rw [Nat.add_mul (t + 1) 1] at this
      omega
  · rintro (c | ⟨rfl, c⟩)
    · have : (s + 1 + 1) * 5 ^ b.length ≤ (t + 1) * 5 ^ b.length := Nat.mul_le_mul_right _ (by omega)
      rw [Nat.add_mul (s + 1) 1] at this
      omega
    · omega
theorem code_inj : ∀ {a b : List Nat}, (∀ x ∈ a, x < 4) → (∀ x ∈ b, x < 4) → code a = code b → a = b := by
  intro a b ha hb h
  have hl : a.length = b.length := by
    rcases Nat.lt_trichotomy a.length b.length with c | c | c
    · have := code_len ha c; omega
    · exact c
    · have := code_len hb c; omega
  induction a generalizing b with
  | nil => exact (List.length_eq_zero_iff.mp hl.symm).symm
  | cons s a ih =>
    cases b with
    | nil => cases hl
    | cons t b =>
      have ha' : ∀ x ∈ a, x < 4 := fun x hx => ha x (List.mem_cons_of_mem _ hx)
      have hb' : ∀ x ∈ b, x < 4 := fun x hx => hb x (List.mem_cons_of_mem _ hx)
      have hl' : a.length = b.length := by simpa using hl
      have n1 : ¬ code (s :: a) < code (t :: b) := by omega
      have n2 : ¬ code (t :: b) < code (s :: a) := by omega
      rw [code_cons ha' hb' hl'] at n1
      rw [code_cons hb' ha' hl'.symm] at n2
      have e : s = t := by omega
      subst e
      have : code a = code b := by omega
      rw [ih ha' hb' this hl']
/-! ### the posts to which stacks lead -/
abbrev Look := Pair → Option Entry
def dl (look : Look) (p s : Nat) : Option Nat := match look (p, s) with
  | some (some h, _) => some h
  | _ => none
def walkTo (look : Look) : Nat → List Nat → Option Nat
  | p, [] => some p
  | p, s :: w => (dl look p s).bind fun h => walkTo look h w
theorem walkTo_append (look : Look) : ∀ (a b : List Nat) (p : Nat), walkTo look p (a ++ b) = (walkTo look p a).bind fun q => walkTo look q b
  | [], b, p => rfl
  | s :: a, b, p => by
    show (dl look p s).bind _ = ((dl look p s).bind _).bind _
    cases dl look p s with
    | none => rfl
    | some h => exact walkTo_append look a b h
abbrev Found := List (Nat × List Nat)
def lkp : Found → Nat → Option (List Nat)
  | [], _ => none
  | (k, w) :: f, p => if k = p then some w else lkp f p
theorem lkp_mem : ∀ {f : Found} {p : Nat} {w : List Nat}, lkp f p = some w → (p, w) ∈ f
  | [], _, _, h => by cases h
  | (k, x) :: f, p, w, h => by
    unfold lkp at h
    by_cases e : k = p
    · rw [if_pos e] at h
      cases h
      rw [e]
      exact List.mem_cons_self
    · rw [if_neg e] at h
      exact List.mem_cons_of_mem _ (lkp_mem h)
theorem lkp_none : ∀ {f : Found} {p : Nat}, lkp f p = none → ∀ x ∈ f, x.1 ≠ p
  | [], _, _, x, hx => nomatch hx
  | (k, y) :: f, p, h, x, hx => by
    unfold lkp at h
    by_cases e : k = p
    · rw [if_pos e] at h; cases h
    · rw [if_neg e] at h
      rcases List.mem_cons.mp hx with e' | hx
      · rw [e']; exact e
      · exact lkp_none h x hx
theorem lkp_of : ∀ {f : Found} {p : Nat} {w : List Nat}, (f.map (·.1)).Nodup → (p, w) ∈ f → lkp f p = some w
  | [], _, _, _, h => nomatch h
  | (k, x) :: f, p, w, nd, h => by
    rw [List.map_cons, List.nodup_cons] at nd
    unfold lkp
    rcases List.mem_cons.mp h with e | h
    · cases e
      rw [if_pos rfl]
    · have : k ≠ p := fun e => nd.1 (e ▸ List.mem_map.mpr ⟨(p, w), h, rfl⟩)
      rw [if_neg this]
      exact lkp_of nd.2 h
def visit (look : Look) (p : Nat) (st : Found × List Nat) (s : Nat) : Found × List Nat := match dl look p s with
  | some h => if (lkp st.1 h).isSome then st else (st.1 ++ [(h, (lkp st.1 p).getD [] ++ [s])], st.2 ++ [h])
  | none => st
def bfs (look : Look) : Nat → Found → List Nat → Found
  | 0, f, _ => f
  | _ + 1, f, [] => f
  | n + 1, f, p :: l => bfs look n ([0, 1, 2, 3].foldl (visit look p) (f, l)).1 ([0, 1, 2, 3].foldl (visit look p) (f, l)).2
theorem bfs_nil (look : Look) (n : Nat) (f : Found) : bfs look n f [] = f := by cases n <;> rfl
def found0 : Found := [(0, [])]
def ledM (look : Look) : Found := bfs look 7 found0 [0]
/-- f is found, k posts of it are done -/
structure BI (look : Look) (n : Nat) (f : Found) (k : Nat) : Prop where
  root : f[0]? = some (0, [])
  nd : (f.map (·.1)).Nodup
  lt : ∀ x ∈ f, x.1 < n
  w3 : ∀ x ∈ f, ∀ s ∈ x.2, s < 3
  len : ∀ x ∈ f, x.2.length + 1 ≤ f.length
  to : ∀ x ∈ f, walkTo look 0 x.2 = some x.1
  up : f.Pairwise fun x y => code x.2 < code y.2
  bd : ∀ y, f[k]? = some y → ∀ x ∈ f, code x.2 < 5 * code y.2 + 1
  cl : ∀ (j : Nat) (y : Nat × List Nat), j < k → f[j]? = some y → ∀ s h, s < 4 → dl look y.1 s = some h → ∃ x ∈ f, x.1 = h ∧ code x.2 ≤ 5 * code y.2 + s + 1
/-- at the k-th, the first s sorts are done -/
structure BJ (look : Look) (n : Nat) (f : Found) (k s : Nat) (y : Nat × List Nat) : Prop where
  root : f[0]? = some (0, [])
  nd : (f.map (·.1)).Nodup
  lt : ∀ x ∈ f, x.1 < n
  w3 : ∀ x ∈ f, ∀ s ∈ x.2, s < 3
  len : ∀ x ∈ f, x.2.length + 1 ≤ f.length
  to : ∀ x ∈ f, walkTo look 0 x.2 = some x.1
  up : f.Pairwise fun x y => code x.2 < code y.2
  here : f[k]? = some y
  bd : ∀ x ∈ f, code x.2 < 5 * code y.2 + s + 1
  cl : ∀ (j : Nat) (y : Nat × List Nat), j < k → f[j]? = some y → ∀ s h, s < 4 → dl look y.1 s = some h → ∃ x ∈ f, x.1 = h ∧ code x.2 ≤ 5 * code y.2 + s + 1
  cs : ∀ t h, t < s → dl look y.1 t = some h → ∃ x ∈ f, x.1 = h ∧ code x.2 ≤ 5 * code y.2 + t + 1
/-- what is asked of the table -/
structure Good (look : Look) (n : Nat) : Prop where
  lt : ∀ p s h, dl look p s = some h → h < n
  foot : ∀ p e, look (p, 3) = some e → e.1 = none
theorem Good.foot' {look : Look} {n : Nat} (g : Good look n) (p : Nat) : dl look p 3 = none := by
  unfold dl
  cases h : look (p, 3) with
  | none => rfl
  | some e =>
    have := g.foot p e h
    obtain ⟨a, b⟩ := e
    simp only at this
    subst this
    rfl
theorem visit_BJ {look : Look} {n : Nat} (g : Good look n) {f : Found} {l : List Nat} {k s : Nat} {y : Nat × List Nat} (b : BJ look n f k s y) (hs : s < 4) :
    BJ look n (visit look y.1 (f, l) s).1 k (s + 1) y ∧ ∃ new, (visit look y.1 (f, l) s).1 = f ++ new ∧ (visit look y.1 (f, l) s).2 = l ++ new.map (·.1) := by
  unfold visit
  cases hd : dl look y.1 s with
  | none =>
    refine ⟨⟨b.root, b.nd, b.lt, b.w3, b.len, b.to, b.up, b.here, fun x hx => by have := b.bd x hx; omega, b.cl, fun t h ht he => ?_⟩, [], by simp, by simp⟩
    by_cases e : t = s
    · rw [e, hd] at he; cases he
    · exact b.cs t h (by omega) he
  | some h =>
    show BJ look n (if (lkp f h).isSome then (f, l) else _).1 k (s + 1) y ∧ _
    cases hl : lkp f h with
    | some w =>
      simp only [Option.isSome_some, if_true]
      refine ⟨⟨b.root, b.nd, b.lt, b.w3, b.len, b.to, b.up, b.here, fun x hx => by have := b.bd x hx; omega, b.cl, fun t h' ht he => ?_⟩, [], by simp [hl], by simp [hl]⟩
      by_cases e : t = s
      · rw [e, hd] at he
        cases he
        have hm := lkp_mem hl
        exact ⟨_, hm, rfl, by have := b.bd _ hm; simp only at this ⊢; omega⟩
      · exact b.cs t h' (by omega) he
    | none =>
      simp only [Option.isSome_none, Bool.false_eq_true, if_false]
      have hy : y ∈ f := List.mem_of_getElem? b.here
      have hw : lkp f y.1 = some y.2 := lkp_of b.nd hy
      rw [hw]
      have hs3 : s < 3 := by
        rcases Nat.lt_or_ge s 3 with c | c
        · exact c
        · have : s = 3 := by omega
          rw [this, g.foot'] at hd
          cases hd
      have mem : ∀ x, x ∈ f ++ [(h, y.2 ++ [s])] → x ∈ f ∨ x = (h, y.2 ++ [s]) := fun x hx => by
        rcases List.mem_append.mp hx with c | c
        · exact .inl c
        · exact .inr (List.mem_singleton.mp c)
      have old : ∀ {x}, x ∈ f → x ∈ f ++ [(h, y.2 ++ [s])] := fun hx => List.mem_append.mpr (.inl hx)
      have cnew : code (y.2 ++ [s]) = 5 * code y.2 + s + 1 := code_snoc _ _
      refine ⟨⟨?_, ?_, ?_, ?_, ?_, ?_, ?_, ?_, ?_, ?_, ?_⟩, [(h, y.2 ++ [s])], by simp [hl], by simp [hl]⟩
      · have := b.root
        rw [List.getElem?_append_left (List.getElem?_eq_some_iff.mp this).1]
        exact this
      · rw [List.map_append, List.nodup_append]
        refine ⟨b.nd, by simp, ?_⟩
        intro a ha c hc
        simp only [List.map_cons, List.map_nil, List.mem_singleton] at hc
        subst hc
        obtain ⟨x, hx, rfl⟩ := List.mem_map.mp ha
        exact lkp_none hl x hx
      · intro x hx
        rcases mem x hx with c | c
        · exact b.lt x c
        · rw [c]; exact g.lt _ _ _ hd
      · intro x hx
        rcases mem x hx with c | c
        · exact b.w3 x c
        · rw [c]
          intro t ht
          rcases List.mem_append.mp ht with d | d
          · exact b.w3 y hy t d
          · rw [List.mem_singleton.mp d]; exact hs3
      · intro x hx
        rw [List.length_append, List.length_singleton]
        rcases mem x hx with c | c
        · have := b.len x c; omega
        · have := b.len y hy
          rw [c]
          show (y.2 ++ [s]).length + 1 ≤ _
          rw [List.length_append, List.length_singleton]
          omega
      · intro x hx
        rcases mem x hx with c | c
        · exact b.to x c
        · rw [c]
          show walkTo look 0 (y.2 ++ [s]) = some h
          rw [walkTo_append, b.to y hy]
          show (dl look y.1 s).bind _ = _
          rw [hd]
          rfl
      · rw [List.pairwise_append]
        refine ⟨b.up, List.pairwise_singleton _ _, fun x hx z hz => ?_⟩
        rw [List.mem_singleton.mp hz]
        have := b.bd x hx
        show code x.2 < code (y.2 ++ [s])
        omega
      · have := b.here
        rw [List.getElem?_append_left (List.getElem?_eq_some_iff.mp this).1]
        exact this
      · intro x hx
        rcases mem x hx with c | c
        · have := b.bd x c; omega
        · rw [c]
          show code (y.2 ++ [s]) < _
          omega
      · intro j z hj hz t h' ht he
        have hkl := (List.getElem?_eq_some_iff.mp b.here).1
        rw [List.getElem?_append_left (by omega)] at hz
        obtain ⟨x, hx, h1, h2⟩ := b.cl j z hj hz t h' ht he
        exact ⟨x, old hx, h1, h2⟩
      · intro t h' ht he
        by_cases e : t = s
        · rw [e, hd] at he
          cases he
          exact ⟨(h, y.2 ++ [s]), List.mem_append.mpr (.inr (List.mem_singleton.mpr rfl)), rfl, by show code (y.2 ++ [s]) ≤ _; rw [e]; omega⟩
        · obtain ⟨x, hx, h1, h2⟩ := b.cs t h' (by omega) he
          exact ⟨x, old hx, h1, h2⟩
theorem visit4 {look : Look} {n : Nat} (g : Good look n) {f : Found} {l : List Nat} {k : Nat} {y : Nat × List Nat} (b : BI look n f k) (hy : f[k]? = some y) :
    BI look n ([0, 1, 2, 3].foldl (visit look y.1) (f, l)).1 (k + 1) ∧ ∃ new, ([0, 1, 2, 3].foldl (visit look y.1) (f, l)).1 = f ++ new ∧ ([0, 1, 2, 3].foldl (visit look y.1) (f, l)).2 = l ++ new.map (·.1) := by
  have b0 : BJ look n f k 0 y := ⟨b.root, b.nd, b.lt, b.w3, b.len, b.to, b.up, hy, b.bd y hy, b.cl, fun t h ht => absurd ht (Nat.not_lt_zero _)⟩
  simp only [List.foldl_cons, List.foldl_nil]
  obtain ⟨b1, n1, e1, q1⟩ := visit_BJ (l := l) g b0 (by decide)
  generalize visit look y.1 (f, l) 0 = st1 at *
  obtain ⟨f1, l1⟩ := st1
  try simp only at e1
  try simp only at q1
  try simp only at b1
  obtain ⟨b2, n2, e2, q2⟩ := visit_BJ (l := l1) g b1 (by decide)
  generalize visit look y.1 (f1, l1) 1 = st2 at *
  obtain ⟨f2, l2⟩ := st2
  try simp only at e2
  try simp only at q2
  try simp only at b2
  obtain ⟨b3, n3, e3, q3⟩ := visit_BJ (l := l2) g b2 (by decide)
  generalize visit look y.1 (f2, l2) 2 = st3 at *
  obtain ⟨f3, l3⟩ := st3
  try simp only at e3
  try simp only at q3
  try simp only at b3
  obtain ⟨b4, n4, e4, q4⟩ := visit_BJ (l := l3) g b3 (by decide)
  generalize visit look y.1 (f3, l3) 3 = st4 at *
  obtain ⟨f4, l4⟩ := st4
  try simp only at e4
  try simp only at q4
  try simp only at b4
  refine ⟨⟨b4.root, b4.nd, b4.lt, b4.w3, b4.len, b4.to, b4.up, fun z hz x hx => ?_, fun j z hj hz s h hs he => ?_⟩, n1 ++ n2 ++ n3 ++ n4, ?_, ?_⟩
  · have hup := b4.up
    have h1 : code y.2 < code z.2 := by
      obtain ⟨i1, v1⟩ := List.getElem?_eq_some_iff.mp b4.here
      obtain ⟨i2, v2⟩ := List.getElem?_eq_some_iff.mp hz
      have := List.pairwise_iff_getElem.mp hup k (k + 1) i1 i2 (Nat.lt_succ_self k)
      rw [v1, v2] at this
      exact this
    have := b4.bd x hx
    omega
  · by_cases e : j = k
    · subst e
      rw [b4.here] at hz
      cases hz
      exact b4.cs s h hs he
    · exact b4.cl j z (by omega) hz s h hs he
  · show f4 = _
    rw [e4, e3, e2, e1]
    simp only [List.append_assoc]
  · show l4 = _
    rw [q4, q3, q2, q1]
    simp only [List.append_assoc, List.map_append]
theorem BI.flen {look : Look} {n : Nat} {f : Found} {k : Nat} (b : BI look n f k) : f.length ≤ n := by
  have := len_le_of_sub b.nd (m := List.range n) fun p hp => by
    obtain ⟨x, hx, rfl⟩ := List.mem_map.mp hp
    exact List.mem_range.mpr (b.lt x hx)
  simpa using this
theorem BI.start {look : Look} {n : Nat} (h : 0 < n) : BI look n found0 0 := by
  refine ⟨rfl, by simp [found0], ?_, ?_, ?_, ?_, ?_, ?_, ?_⟩
  · intro x hx
    rw [List.mem_singleton.mp hx]; exact h
  · intro x hx s hs
    rw [List.mem_singleton.mp hx] at hs; cases hs
  · intro x hx
    rw [List.mem_singleton.mp hx]; exact Nat.le_refl _
  · intro x hx
    rw [List.mem_singleton.mp hx]; rfl
  · exact List.pairwise_singleton _ _
  · intro y hy x hx
    have : some (0, ([] : List Nat)) = some y := hy
    cases this
    rw [List.mem_singleton.mp hx]
    decide
  · intro j y hj
    exact absurd hj (Nat.not_lt_zero _)
/-- all of them done -/
structure BF (look : Look) (n : Nat) (f : Found) : Prop where
  root : (0, []) ∈ f
  nd : (f.map (·.1)).Nodup
  lt : ∀ x ∈ f, x.1 < n
  w3 : ∀ x ∈ f, ∀ s ∈ x.2, s < 3
  len : ∀ x ∈ f, x.2.length + 1 ≤ n
  to : ∀ x ∈ f, walkTo look 0 x.2 = some x.1
  cl : ∀ y ∈ f, ∀ s h, s < 4 → dl look y.1 s = some h → ∃ x ∈ f, x.1 = h ∧ code x.2 ≤ 5 * code y.2 + s + 1
theorem bfs_ok {look : Look} {n : Nat} (g : Good look n) : ∀ (m : Nat) (f : Found) (k : Nat), BI look n f k → n - k ≤ m → k ≤ f.length → BF look n (bfs look m f ((f.map (·.1)).drop k))
  | m, f, k, b, hm, hk => by
    have fin : f.length ≤ k → BF look n f := fun hkk =>
      ⟨List.mem_of_getElem? b.root, b.nd, b.lt, b.w3, fun x hx => Nat.le_trans (b.len x hx) b.flen, b.to, fun y hy s h hs he => by
        obtain ⟨j, hj⟩ := List.mem_iff_getElem?.mp hy
        have := (List.getElem?_eq_some_iff.mp hj).1
        exact b.cl j y (by omega) hj s h hs he⟩
    rcases Nat.lt_or_ge k f.length with hlt | hge
    · have hfl := b.flen
      cases m with
      | zero => omega
      | succ m =>
        have hd : (f.map (·.1)).drop k = f[k].1 :: (f.map (·.1)).drop (k + 1) := by
          rw [List.drop_eq_getElem_cons (by rw [List.length_map]; exact hlt), List.getElem_map]
        rw [hd]
        show BF look n (bfs look m _ _)
        obtain ⟨b', new, e1, e2⟩ := visit4 (l := (f.map (·.1)).drop (k + 1)) g b (y := f[k]) (List.getElem?_eq_getElem hlt)
        have e3 : ([0, 1, 2, 3].foldl (visit look f[k].1) (f, (f.map (·.1)).drop (k + 1))).2 = ((([0, 1, 2, 3].foldl (visit look f[k].1) (f, (f.map (·.1)).drop (k + 1))).1).map (·.1)).drop (k + 1) := by
          rw [e2, e1, List.map_append, List.drop_append_of_le_length (by rw [List.length_map]; exact hlt)]
        rw [e3]
        refine bfs_ok g m _ (k + 1) b' (by omega) ?_
        rw [e1, List.length_append]
        omega
    · have : (f.map (·.1)).drop k = [] := List.drop_eq_nil_of_le (by rw [List.length_map]; exact hge)
      rw [this, bfs_nil]
      exact fin hge
theorem led_ok {look : Look} {n : Nat} (g : Good look n) (h0 : 0 < n) (h6 : n ≤ 6) : BF look n (ledM look) :=
  bfs_ok g 7 found0 0 (BI.start h0) (by omega) (Nat.zero_le _)
theorem BF.least {look : Look} {n : Nat} {f : Found} (b : BF look n f) : ∀ (m : Nat) (u : List Nat) (p : Nat), u.length = m → (∀ s ∈ u, s < 4) → walkTo look 0 u = some p → ∃ x ∈ f, x.1 = p ∧ code x.2 ≤ code u
  | 0, u, p, hm, _, h => by
    have : u = [] := List.length_eq_zero_iff.mp hm
    subst this
    cases h
    exact ⟨(0, []), b.root, rfl, Nat.le_refl _⟩
  | m + 1, u, p, hm, h4, h => by
    have hne : u ≠ [] := fun z => by rw [z] at hm; cases hm
    have hu : u.dropLast ++ [u.getLast hne] = u := List.dropLast_concat_getLast hne
    rw [← hu, walkTo_append] at h
    cases hw : walkTo look 0 u.dropLast with
    | none => rw [hw] at h; cases h
    | some q =>
      rw [hw] at h
      have h4' : ∀ s ∈ u.dropLast, s < 4 := fun s hs => h4 s (List.dropLast_subset u hs)
      obtain ⟨x, hx, h1, h2⟩ := BF.least b m u.dropLast q (by rw [List.length_dropLast, hm]; rfl) h4' hw
      have hd : dl look q (u.getLast hne) = some p := by
        have h' : (dl look q (u.getLast hne)).bind (fun h => some h) = some p := h
        cases hq : dl look q (u.getLast hne) with
        | none => rw [hq] at h'; cases h'
        | some r => rw [hq] at h'; exact h'
      rw [← h1] at hd
      obtain ⟨z, hz, g1, g2⟩ := b.cl x hx _ p (h4 _ (List.getLast_mem hne)) hd
      refine ⟨z, hz, g1, ?_⟩
      have : code u = 5 * code u.dropLast + u.getLast hne + 1 := by
        rw [← code_snoc, hu]
      omega
/-! ### the least stack -/
def cand (look : Look) (x : Nat × List Nat) (s : Nat) : List (List Nat) := if (look (x.1, s)).isNone then [if s < 3 then x.2 ++ [s] else x.2] else []
def cands (look : Look) (f : Found) : List (List Nat) := f.flatMap fun x => [0, 1, 2, 3].flatMap (cand look x)
def IsLeast (l : List (List Nat)) (m : List Nat) : Prop := m ∈ l ∧ ∀ x ∈ l, code m ≤ code x
def minL : List (List Nat) → Option (List Nat)
  | [] => none
  | a :: l => match minL l with
    | none => some a
    | some b => if code b < code a then some b else some a
theorem minL_ok : ∀ {l : List (List Nat)} {m : List Nat}, minL l = some m → IsLeast l m
  | [], _, h => by cases h
  | a :: l, m, h => by
    unfold minL at h
    cases hl : minL l with
    | none =>
      rw [hl] at h
      cases h
      refine ⟨List.mem_cons_self, fun x hx => ?_⟩
      rcases List.mem_cons.mp hx with e | hx
      · rw [e]; exact Nat.le_refl _
      · cases l with
        | nil => cases hx
        | cons c l =>
          unfold minL at hl
          cases h2 : minL l with
          | none => rw [h2] at hl; cases hl
          | some d =>
            rw [h2] at hl
            by_cases c1 : code d < code c <;> simp [c1] at hl
    | some b =>
      rw [hl] at h
      obtain ⟨i1, i2⟩ := minL_ok hl
      by_cases c : code b < code a
      · simp only [if_pos c] at h
        cases h
        refine ⟨List.mem_cons_of_mem _ i1, fun x hx => ?_⟩
        rcases List.mem_cons.mp hx with e | hx
        · rw [e]; omega
        · exact i2 x hx
      · simp only [if_neg c] at h
        cases h
        refine ⟨List.mem_cons_self, fun x hx => ?_⟩
        rcases List.mem_cons.mp hx with e | hx
        · rw [e]; exact Nat.le_refl _
        · have := i2 x hx; omega
theorem minL_none {l : List (List Nat)} (h : minL l = none) : l = [] := by
  cases l with
  | nil => rfl
  | cons a l =>
    unfold minL at h
    cases hl : minL l with
    | none => rw [hl] at h; cases h
    | some b =>
      rw [hl] at h
      by_cases c : code b < code a <;> simp [c] at h
def leastM (look : Look) : Option (List Nat) := minL (cands look (ledM look))
theorem cands_mem {look : Look} {f : Found} {w : List Nat} : w ∈ cands look f ↔ ∃ x ∈ f, ∃ s, s < 4 ∧ look (x.1, s) = none ∧ w = if s < 3 then x.2 ++ [s] else x.2 := by
  unfold cands
  rw [List.mem_flatMap]
  constructor
  · rintro ⟨x, hx, h⟩
    rw [List.mem_flatMap] at h
    obtain ⟨s, hs, h⟩ := h
    unfold cand at h
    by_cases c : (look (x.1, s)).isNone = true
    · rw [if_pos c] at h
      refine ⟨x, hx, s, ?_, Option.isNone_iff_eq_none.mp c, List.mem_singleton.mp h⟩
      simp only [List.mem_cons, List.not_mem_nil, or_false] at hs
      omega
    · rw [if_neg c] at h; cases h
  · rintro ⟨x, hx, s, hs, hl, hw⟩
    refine ⟨x, hx, List.mem_flatMap.mpr ⟨s, ?_, ?_⟩⟩
    · have : s = 0 ∨ s = 1 ∨ s = 2 ∨ s = 3 := by omega
      rcases this with rfl | rfl | rfl | rfl <;> simp
    · unfold cand
      rw [if_pos (by rw [hl]; rfl)]
      exact List.mem_singleton.mpr hw
theorem cands_lt {look : Look} {n : Nat} {f : Found} (b : BF look n f) {w : List Nat} (h : w ∈ cands look f) : w.length ≤ n ∧ ∀ s ∈ w, s < 3 := by
  obtain ⟨x, hx, s, hs, hl, hw⟩ := cands_mem.mp h
  have h1 := b.len x hx
  have h2 := b.w3 x hx
  subst hw
  by_cases c : s < 3
  · rw [if_pos c]
    refine ⟨by rw [List.length_append, List.length_singleton]; exact h1, fun t ht => ?_⟩
    rcases List.mem_append.mp ht with d | d
    · exact h2 t d
    · rw [List.mem_singleton.mp d]; exact c
  · rw [if_neg c]
    exact ⟨by omega, h2⟩
/-! ### runs -/
def run (look : Look) (stack : List Nat) : Nat → Nat → Nat → List Nat → List Nat → Option (List Nat × List Nat × Nat)
  | _, _, _, _, [] => none
  | i, here, turns, marks, s :: rest => match look (here, s) with
    | none => none
    | some (none, more, handed, left) => some ((marks ++ handed).take 1001, left ++ stack.drop (i + 1), turns + more)
    | some (some h, more, handed, _) => run look stack (i + 1) h (turns + more) ((marks ++ handed).take 1001) rest
def toldOn (look : Look) (stack : List Nat) : Option (List Nat × List Nat × Nat) := run look stack 0 0 0 [] (stack ++ [3])
def nv (look : Look) : Nat → List Nat → Bool
  | _, [] => true
  | here, s :: rest => match look (here, s) with
    | none => true
    | some (none, _) => false
    | some (some h, _) => nv look h rest
theorem run_nv (look : Look) (stack : List Nat) : ∀ (rest : List Nat) (i here turns : Nat) (marks : List Nat), (run look stack i here turns marks rest).isNone = nv look here rest
  | [], _, _, _, _ => rfl
  | s :: rest, i, here, turns, marks => by
    unfold run nv
    cases h : look (here, s) with
    | none => rfl
    | some e =>
      obtain ⟨e1, more, handed, left⟩ := e
      cases e1 with
      | none => rfl
      | some hh => exact run_nv look stack rest _ _ _ _
theorem nv_walk {look : Look} : ∀ (a b : List Nat) (p q : Nat), walkTo look p a = some q → nv look p (a ++ b) = nv look q b
  | [], b, p, q, h => by cases h; rfl
  | s :: a, b, p, q, h => by
    have h' : (dl look p s).bind (fun h => walkTo look h a) = some q := h
    cases hd : dl look p s with
    | none => rw [hd] at h'; cases h'
    | some r =>
      rw [hd] at h'
      have ih := nv_walk a b r q h'
      show (match look (p, s) with | none => true | some (none, _) => false | some (some h, _) => nv look h (a ++ b)) = nv look q b
      unfold dl at hd
      cases hl : look (p, s) with
      | none => rw [hl] at hd; cases hd
      | some e =>
        rw [hl] at hd
        obtain ⟨e1, e2⟩ := e
        cases e1 with
        | none => cases hd
        | some hh =>
          cases hd
          exact ih
theorem nv_inv {look : Look} : ∀ (u : List Nat) (p : Nat), nv look p (u ++ [3]) = true → ∃ v q, walkTo look p v = some q ∧ ((∃ s rest, u = v ++ s :: rest ∧ look (q, s) = none) ∨ (u = v ∧ (look (q, 3) = none ∨ ∃ h, dl look q 3 = some h)))
  | [], p, h => by
    refine ⟨[], p, rfl, .inr ⟨rfl, ?_⟩⟩
    rw [List.nil_append] at h
    unfold nv at h
    cases hl : look (p, 3) with
    | none => exact .inl rfl
    | some e =>
      rw [hl] at h
      obtain ⟨e1, e2⟩ := e
      cases e1 with
      | none => cases h
      | some hh =>
        right
        unfold dl
        rw [hl]
        exact ⟨hh, rfl⟩
  | s :: u, p, h => by
    rw [List.cons_append] at h
    unfold nv at h
    cases hl : look (p, s) with
    | none => exact ⟨[], p, rfl, .inl ⟨s, u, rfl, hl⟩⟩
    | some e =>
      rw [hl] at h
      obtain ⟨e1, e2⟩ := e
      cases e1 with
      | none => cases h
      | some hh =>
        obtain ⟨v, q, h1, h2⟩ := nv_inv u hh h
        refine ⟨s :: v, q, ?_, ?_⟩
        · show (dl look p s).bind _ = _
          unfold dl
          rw [hl]
          exact h1
        · rcases h2 with ⟨t, rest, e, h3⟩ | ⟨e, h3⟩
          · exact .inl ⟨t, rest, by rw [e]; rfl, h3⟩
          · exact .inr ⟨by rw [e], h3⟩
theorem code_mem {v : List Nat} {s : Nat} {rest : List Nat} : 5 * code v + s + 1 ≤ code (v ++ s :: rest) := by
  have := code_pre (v ++ [s]) rest
  rw [code_snoc, List.append_assoc] at this
  exact this
/-- the least stack never rests, and no smaller one does so -/
theorem least_never {look : Look} {n : Nat} (g : Good look n) (h0 : 0 < n) (h6 : n ≤ 6) {T : List Nat} (h : leastM look = some T) : T.length ≤ 6 ∧ (∀ s ∈ T, s < 3) ∧ toldOn look T = none ∧ ∀ u : List Nat, (∀ s ∈ u, s < 3) → toldOn look u = none → code T ≤ code u := by
  have b := led_ok g h0 h6
  obtain ⟨hm, hle⟩ := minL_ok h
  obtain ⟨h1, h2⟩ := cands_lt b hm
  refine ⟨by omega, h2, ?_, fun u hu hn => ?_⟩
  · obtain ⟨x, hx, s, hs, hl, hw⟩ := cands_mem.mp hm
    have hto := b.to x hx
    have : nv look 0 (T ++ [3]) = true := by
      by_cases c : s < 3
      · rw [if_pos c] at hw
        rw [hw, List.append_assoc, nv_walk _ _ _ _ hto]
        show nv look x.1 (s :: [3]) = true
        unfold nv
        rw [hl]
      · rw [if_neg c] at hw
        have : s = 3 := by omega
        subst this
        rw [hw, nv_walk _ _ _ _ hto]
        unfold nv
        rw [hl]
    unfold toldOn
    rw [← run_nv look T _ 0 0 0 []] at this
    exact Option.isNone_iff_eq_none.mp this
  · have hnv : nv look 0 (u ++ [3]) = true := by
      rw [← run_nv look u _ 0 0 0 []]
      unfold toldOn at hn
      rw [hn]; rfl
    obtain ⟨v, q, hv, hc⟩ := nv_inv u 0 hnv
    rcases hc with ⟨s, rest, e, hs⟩ | ⟨e, hs⟩
    · have hv4 : ∀ t ∈ v, t < 4 := fun t ht => Nat.lt_succ_of_lt (hu t (by rw [e]; exact List.mem_append.mpr (.inl ht)))
      have hs3 : s < 3 := hu s (by rw [e]; exact List.mem_append.mpr (.inr List.mem_cons_self))
      obtain ⟨x, hx, g1, g2⟩ := b.least v.length v q rfl hv4 hv
      have hcand : x.2 ++ [s] ∈ cands look (ledM look) := cands_mem.mpr ⟨x, hx, s, by omega, by rw [g1]; exact hs, by rw [if_pos hs3]⟩
      have h3 := hle _ hcand
      rw [code_snoc] at h3
      have h4 := code_mem (v := v) (s := s) (rest := rest)
      rw [← e] at h4
      omega
    · rcases hs with hs | ⟨hh, hs⟩
      · subst e
        obtain ⟨x, hx, g1, g2⟩ := b.least u.length u q rfl (fun t ht => Nat.lt_succ_of_lt (hu t ht)) hv
        have hcand : x.2 ∈ cands look (ledM look) := cands_mem.mpr ⟨x, hx, 3, by omega, by rw [g1]; exact hs, by rw [if_neg (by decide)]⟩
        have h3 := hle _ hcand
        omega
      · rw [g.foot'] at hs; cases hs
/-! ### the law's own looks -/
def ledStep (look : Look) (f : List Nat) (p : Nat) : List Nat := if p ∈ f then [0, 1, 2].foldl (fun f s => match dl look p s with
  | some h => if h ∈ f then f else f ++ [h]
  | none => f) f else f
def lawLed (look : Look) : List Nat := (List.replicate 6 [0, 1, 2, 3, 4, 5]).flatten.foldl (ledStep look) [0]
def lawRests (look : Look) : Bool := (lawLed look).all fun p => [0, 1, 2, 3].all fun s => (look (p, s)).isSome
theorem fold_in {α β : Type} (P : β → Prop) (g : β → α → β) : ∀ (l : List α) (b : β), P b → (∀ b a, a ∈ l → P b → P (g b a)) → P (l.foldl g b)
  | [], _, h, _ => h
  | a :: l, b, h, hs => fold_in P g l (g b a) (hs b a List.mem_cons_self h) fun b x hx => hs b x (List.mem_cons_of_mem _ hx)
theorem rests_ok {look : Look} {n : Nat} (g : Good look n) (h0 : 0 < n) (h6 : n ≤ 6) (h : leastM look = none) : lawRests look = true := by
  have b := led_ok g h0 h6
  have hc := minL_none h
  have key : ∀ p ∈ lawLed look, ∃ x ∈ ledM look, x.1 = p := by
    unfold lawLed
    refine fold_in (fun f => ∀ p ∈ f, ∃ x ∈ ledM look, x.1 = p) _ _ _ ?_ ?_
    · intro p hp
      rw [List.mem_singleton.mp hp]
      exact ⟨_, b.root, rfl⟩
    · intro f p _ hf
      unfold ledStep
      split
      · rename_i hp
        refine fold_in (fun f => ∀ p ∈ f, ∃ x ∈ ledM look, x.1 = p) _ _ _ hf ?_
        intro f' s hs hf'
        cases hd : dl look p s with
        | none => exact hf'
        | some hh =>
          simp only
          split
          · exact hf'
          · intro q hq
            rcases List.mem_append.mp hq with c | c
            · exact hf' q c
            · rw [List.mem_singleton.mp c]
              obtain ⟨x, hx, e⟩ := hf p hp
              rw [← e] at hd
              obtain ⟨z, hz, e2, _⟩ := b.cl x hx s hh (by simp only [List.mem_cons, List.not_mem_nil, or_false] at hs; omega) hd
              exact ⟨z, hz, e2⟩
      · exact hf
  unfold lawRests
  rw [List.all_eq_true]
  intro p hp
  rw [List.all_eq_true]
  intro s hs
  obtain ⟨x, hx, e⟩ := key p hp
  cases hl : look (p, s) with
  | some _ => rfl
  | none =>
    have : (if s < 3 then x.2 ++ [s] else x.2) ∈ cands look (ledM look) := cands_mem.mpr ⟨x, hx, s, by simp only [List.mem_cons, List.not_mem_nil, or_false] at hs; omega, by rw [e]; exact hl, rfl⟩
    rw [hc] at this
    cases this
def laterOf (now : List (List Nat)) : List (List Nat) := now.flatMap fun st => [st ++ [0], st ++ [1], st ++ [2]]
def stacksN : Nat → List (List Nat) × List (List Nat)
  | 0 => ([[]], [[]])
  | n + 1 => ((stacksN n).1 ++ laterOf (stacksN n).2, laterOf (stacksN n).2)
def chk (look : Look) (T : List Nat) : List (List Nat) → Bool
  | [] => decide (4 < T.length)
  | s :: rest => if s = T then true else if (toldOn look s).isNone then false else chk look T rest
theorem now_mem : ∀ (n : Nat) (w : List Nat), w.length = n → (∀ s ∈ w, s < 3) → w ∈ (stacksN n).2
  | 0, w, h, _ => by
    have : w = [] := List.length_eq_zero_iff.mp h
    rw [this]
    exact List.mem_singleton.mpr rfl
  | n + 1, w, h, h3 => by
    have hne : w ≠ [] := fun z => by rw [z] at h; cases h
    have hu : w.dropLast ++ [w.getLast hne] = w := List.dropLast_concat_getLast hne
    have ih := now_mem n w.dropLast (by rw [List.length_dropLast, h]; rfl) fun s hs => h3 s (List.dropLast_subset w hs)
    have hl := h3 _ (List.getLast_mem hne)
    show w ∈ laterOf (stacksN n).2
    refine List.mem_flatMap.mpr ⟨w.dropLast, ih, ?_⟩
    have : w.getLast hne = 0 ∨ w.getLast hne = 1 ∨ w.getLast hne = 2 := by omega
    rcases this with e | e | e <;> (rw [e] at hu; rw [hu]; simp)
theorem all_mem (n : Nat) (w : List Nat) (h : w.length = n) (h3 : ∀ s ∈ w, s < 3) : w ∈ (stacksN n).1 := by
  have := now_mem n w h h3
  cases n with
  | zero => exact this
  | succ n => exact List.mem_append.mpr (.inr this)
theorem chk_ok {look : Look} {T : List Nat} : ∀ (l : List (List Nat)), l.Pairwise (fun a b => code a < code b) → (∀ s ∈ l, toldOn look s = none → code T ≤ code s) → (∀ s ∈ l, ∀ x ∈ s, x < 3) → (∀ s ∈ T, s < 3) → (∀ s ∈ l, s.length ≤ 4) → (4 < T.length ∨ T ∈ l) → chk look T l = true
  | [], _, _, _, _, _, h => by
    rcases h with h | h
    · exact decide_eq_true h
    · cases h
  | s :: l, hp, hn, h3, hT, hz, h => by
    unfold chk
    by_cases e : s = T
    · rw [if_pos e]
    · rw [if_neg e]
      rw [List.pairwise_cons] at hp
      have hin : 4 < T.length ∨ T ∈ l := by
        rcases h with h | h
        · exact .inl h
        · rcases List.mem_cons.mp h with h | h
          · exact absurd h.symm e
          · exact .inr h
      have ih := chk_ok l hp.2 (fun x hx => hn x (List.mem_cons_of_mem _ hx)) (fun x hx => h3 x (List.mem_cons_of_mem _ hx)) hT (fun x hx => hz x (List.mem_cons_of_mem _ hx)) hin
      cases ht : toldOn look s with
      | some _ => simp only [Option.isNone_some, Bool.false_eq_true, if_false]; exact ih
      | none =>
        exfalso
        have h1 := hn s List.mem_cons_self ht
        have h4 : ∀ x ∈ s, x < 4 := fun x hx => Nat.lt_succ_of_lt (h3 s List.mem_cons_self x hx)
        rcases hin with hin | hin
        · have := code_len h4 (b := T) (by have := hz s List.mem_cons_self; omega)
          omega
        · have := hp.1 T hin
          omega
theorem stacks_up (k : Nat) (h : k ≤ 4) : (stacksN k).1.Pairwise (fun a b => code a < code b) ∧ (∀ s ∈ (stacksN k).1, ∀ x ∈ s, x < 3) ∧ ∀ s ∈ (stacksN k).1, s.length ≤ 4 := by
  have : k = 0 ∨ k = 1 ∨ k = 2 ∨ k = 3 ∨ k = 4 := by omega
  rcases this with rfl | rfl | rfl | rfl | rfl
  · exact ⟨by decide +kernel, by decide +kernel, by decide +kernel⟩
  · exact ⟨by decide +kernel, by decide +kernel, by decide +kernel⟩
  · exact ⟨by decide +kernel, by decide +kernel, by decide +kernel⟩
  · exact ⟨by decide +kernel, by decide +kernel, by decide +kernel⟩
  · exact ⟨by decide +kernel, by decide +kernel, by decide +kernel⟩
/-- the law's walk over short stacks comes to True -/
theorem right_ok {look : Look} {n : Nat} (g : Good look n) (h0 : 0 < n) (h6 : n ≤ 6) {T : List Nat} (h : leastM look = some T) : chk look T (stacksN (min 4 T.length)).1 = true := by
  obtain ⟨h1, h2, h3, h4⟩ := least_never g h0 h6 h
  obtain ⟨s1, s2, s3⟩ := stacks_up (min 4 T.length) (Nat.min_le_left _ _)
  refine chk_ok _ s1 (fun s hs hn => h4 s (s2 s hs) hn) s2 h2 s3 ?_
  rcases Nat.lt_or_ge 4 T.length with c | c
  · exact .inl c
  · right
    have e : min 4 T.length = T.length := Nat.min_eq_right c
    rw [e]
    exact all_mem _ _ rfl h2
/-- the table is good -/
theorem sem_good {R : Routine} (v : VR R) : Good (sem R) R.length := by
  refine ⟨fun p s h hd => ?_, fun p e h => sem_foot v h⟩
  unfold dl at hd
  cases hl : sem R (p, s) with
  | none => rw [hl] at hd; cases hd
  | some e =>
    rw [hl] at hd
    have f := sem_fine v hl
    obtain ⟨e1, e2⟩ := e
    cases e1 with
    | none => cases hd
    | some hh =>
      cases hd
      exact f.nx h rfl
end Ma
/-! Pure data: the program's own shapes. -/
namespace PD
open PySem PySem.Spec PyProof.Rows L2 PDX Ma
section
variable {K : PySem.W.Frag} {M : Addr → Prop} {H H' : Hp} {τ : Tau} {d e f : D} {ds : List D}
theorem rv_eqI {i j : Int} : RvD K M rEq (.int i) (.int j) (.bl (decide (i = j))) := fun x y H _ hx hy Q q => by
  rw [hx.int_inv, hy.int_inv]
  refine ⟨rfl, ?_⟩
  have : decide (V.int i = V.int j) = decide (i = j) := by
    rw [Bool.eq_iff_iff]; simp
  rw [this]
  exact q _ H (Le.refl _ _) (Rp.bl _)
theorem rv_neI {i j : Int} : RvD K M rNe (.int i) (.int j) (.bl (!decide (i = j))) := fun x y H _ hx hy Q q => by
  rw [hx.int_inv, hy.int_inv]
  refine ⟨rfl, ?_⟩
  have : decide (V.int i = V.int j) = decide (i = j) := by
    rw [Bool.eq_iff_iff]; simp
  rw [this]
  exact q _ H (Le.refl _ _) (Rp.bl _)
theorem rv_eqIS {i : Int} {s : Str} : RvD K M rEq (.int i) (.str s) (.bl false) := fun x y H _ hx hy Q q => by
  rw [hx.int_inv, hy.str_inv]
  exact ⟨rfl, q _ H (Le.refl _ _) (Rp.bl _)⟩
theorem rv_eqSI {i : Int} {s : Str} : RvD K M rEq (.str s) (.int i) (.bl false) := fun x y H _ hx hy Q q => by
  rw [hx.str_inv, hy.int_inv]
  exact ⟨rfl, q _ H (Le.refl _ _) (Rp.bl _)⟩
theorem rv_neIS {i : Int} {s : Str} : RvD K M rNe (.int i) (.str s) (.bl true) := fun x y H _ hx hy Q q => by
  rw [hx.int_inv, hy.str_inv]
  exact ⟨rfl, q _ H (Le.refl _ _) (Rp.bl _)⟩
theorem rv_neSI {i : Int} {s : Str} : RvD K M rNe (.str s) (.int i) (.bl true) := fun x y H _ hx hy Q q => by
  rw [hx.str_inv, hy.int_inv]
  exact ⟨rfl, q _ H (Le.refl _ _) (Rp.bl _)⟩
theorem rv_eqS {s u : Str} : RvD K M rEq (.str s) (.str u) (.bl (decide (s = u))) := fun x y H _ hx hy Q q => by
  rw [hx.str_inv, hy.str_inv]
  refine ⟨rfl, ?_⟩
  have : decide (V.str s = V.str u) = decide (s = u) := by
    rw [Bool.eq_iff_iff]; simp
  rw [this]
  exact q _ H (Le.refl _ _) (Rp.bl _)
theorem rv_neS {s u : Str} : RvD K M rNe (.str s) (.str u) (.bl (!decide (s = u))) := fun x y H _ hx hy Q q => by
  rw [hx.str_inv, hy.str_inv]
  refine ⟨rfl, ?_⟩
  have : decide (V.str s = V.str u) = decide (s = u) := by
    rw [Bool.eq_iff_iff]; simp
  rw [this]
  exact q _ H (Le.refl _ _) (Rp.bl _)
/-- x is None, x is not None -/
def isNone : D → Bool
  | .non => true
  | _ => false
theorem non_dec {v : V} (h : Rp K M H d v) : decide (v = .non) = isNone d := by
  cases d with
  | non => rw [h.non_inv]; rfl
  | bl b => rw [h.bl_inv]; rfl
  | int i => rw [h.int_inv]; rfl
  | str s => rw [h.str_inv]; rfl
  | ty s => rw [h.ty_inv]; rfl
  | adr s => rw [h.adr_inv]; rfl
  | tup ds => obtain ⟨a, vs, rfl, _⟩ := h.tup_inv; rfl
  | lst ds => obtain ⟨a, vs, rfl, _⟩ := h.lst_inv; rfl
  | dk ks ds => obtain ⟨a, vs, rfl, _⟩ := h.dk_inv; rfl
  | dt ks ds => obtain ⟨a, vs, rfl, _⟩ := h.dt_inv; rfl
  | dkz ks ds =>
    unfold Rp at h
    obtain ⟨a, vs, rfl, _⟩ := h
    rfl
  | con ps =>
    unfold Rp at h
    cases h
    rfl
theorem rv_isN : RvD K M (fun x y H Q => y = .non ∧ Q (.bl (decide (x = .non))) H) d .non (.bl (isNone d)) := fun x y H _ hx hy Q q => by
  refine ⟨hy.non_inv, ?_⟩
  rw [non_dec hx]
  exact q _ H (Le.refl _ _) (Rp.bl _)
theorem rv_notN : RvD K M (fun x y H Q => y = .non ∧ Q (.bl (!decide (x = .non))) H) d .non (.bl (!isNone d)) := fun x y H _ hx hy Q q => by
  refine ⟨hy.non_inv, ?_⟩
  rw [non_dec hx]
  exact q _ H (Le.refl _ _) (Rp.bl _)
/-! flat things in a row -/
def flatD : D → Bool
  | .non => true
  | .bl _ => true
  | .int _ => true
  | .str _ => true
  | _ => false
theorem int_flat {vs : List V} : ∀ {ns : List Int}, RpL K M H (ns.map D.int) vs → vs = ns.map V.int := by
  intro ns
  induction ns generalizing vs with
  | nil => intro h; exact h.inv0
  | cons n ns ih =>
    intro h
    obtain ⟨v, r, rfl, q, t⟩ := h.inv
    rw [q.int_inv, ih t]
    rfl
theorem inV_int (i : Int) : ∀ ns : List Int, inV (.int i) (ns.map V.int) = decide (i ∈ ns) := by
  intro ns
  induction ns with
  | nil => rfl
  | cons n ns ih =>
    have h1 : inV (.int i) ((n :: ns).map V.int) = (eqV (.int n) (.int i) || inV (.int i) (ns.map V.int)) := by
      unfold inV
      rw [List.map_cons, List.any_cons]
    rw [h1, ih, Bool.eq_iff_iff]
    simp [eqV]
    constructor
    · rintro (h | h)
      · exact .inl h.symm
      · exact .inr h
    · rintro (h | h)
      · exact .inl h.symm
      · exact .inr h
theorem rv_niT {i : Int} {ns : List Int} : RvD K M (rIn K true) (.int i) (.tup (ns.map D.int)) (.bl (!decide (i ∈ ns))) := fun x y H _ hx hy Q q => by
  obtain ⟨a, vs, rfl, _, h3, h4⟩ := hy.tup_inv
  rw [int_flat h4] at h3
  rw [hx.int_inv]
  refine ⟨a, _, rfl, .inr (.inl (.inl h3)), rfl, by simp [flatV], ?_⟩
  show Q (.bl (!inV (.int i) (ns.map V.int))) H
  rw [inV_int]
  exact q _ H (Le.refl _ _) (Rp.bl _)
theorem rv_inL {i : Int} {ns : List Int} : RvD K M (rIn K false) (.int i) (.lst (ns.map D.int)) (.bl (decide (i ∈ ns))) := fun x y H _ hx hy Q q => by
  obtain ⟨a, vs, rfl, _, h3, h4⟩ := hy.lst_inv
  rw [int_flat h4] at h3
  rw [hx.int_inv]
  refine ⟨a, _, rfl, .inl (.inl (.inl h3)), rfl, by simp [flatV], ?_⟩
  show Q (.bl (inV (.int i) (ns.map V.int))) H
  rw [inV_int]
  exact q _ H (Le.refl _ _) (Rp.bl _)
theorem rv_niL {i : Int} {ns : List Int} : RvD K M (rIn K true) (.int i) (.lst (ns.map D.int)) (.bl (!decide (i ∈ ns))) := fun x y H _ hx hy Q q => by
  obtain ⟨a, vs, rfl, _, h3, h4⟩ := hy.lst_inv
  rw [int_flat h4] at h3
  rw [hx.int_inv]
  refine ⟨a, _, rfl, .inl (.inl (.inl h3)), rfl, by simp [flatV], ?_⟩
  show Q (.bl (!inV (.int i) (ns.map V.int))) H
  rw [inV_int]
  exact q _ H (Le.refl _ _) (Rp.bl _)
end
section
variable {K : PySem.W.Frag} {M : Addr → Prop} {τ : Tau} {te src : TE} {xs : List D} {j : Nat}
/-- all([e for x in xs]), each e True -/
theorem ed_allT (hsrc : EvD K M src τ (.tup xs)) (hz : xs.length ≤ 100000) (he : ∀ x, x ∈ xs → ∀ M, EvD K M te ((wipeT τ [j]).set j (some x)) (.bl true)) :
    EvD K M (tCB (rAll K) (tCons (tLc (iTup K src) (gName j) tYes te [j]) tNil)) τ (.bl true) := by
  have h1 := ed_lcT (K := K) (M := M) (tt := tYes) (te := te) (j := j) (fun _ => true) (fun _ => .bl true) hsrc hz (fun x _ M => et_yes) (fun x hx _ M => he x hx M)
  have e : (xs.filter fun _ => true).map (fun _ => D.bl true) = (List.replicate xs.length true).map D.bl := by
    rw [filter_yes]
    simp [List.map_const']
  rw [e] at h1
  have h2 := rc_all (K := K) (M := M) (bs := List.replicate xs.length true)
  rw [show (List.replicate xs.length true).all id = true by simp] at h2
  exact ed_cb (ea_cons h1 ea_nil) h2
end
/-! ### the shapes -/
def nD (n : Nat) : D := .int (n : Int)
def sD (l : List Nat) : D := .tup (l.map nD)
def eD : Option Nat → D
  | none => .int (-1)
  | some h => .int (h : Int)
def mD (m : Ma.Move) : D := .tup [sD m.1, sD m.2.1, eD m.2.2]
def pD (post : List Ma.Move) : D := .tup (post.map mD)
def rD (R : Routine) : D := .tup (R.map pD)
def forP : List PyData := [.str "never", .int 0, .tuple [], .tuple []]
def entD : Option Ma.Entry → D
  | none => .con forP
  | some e => .tup [eD e.1, .int (e.2.1 : Int), sD e.2.2.1, sD e.2.2.2]
def kP (p : Pair) : List Key := [.inl (p.1 : Int), .inl (p.2 : Int)]
def pkD (p : Pair) : D := keyD (kP p)
theorem kP_inj {p q : Pair} (h : kP p = kP q) : p = q := by
  obtain ⟨a, b⟩ := p
  obtain ⟨c, d⟩ := q
  unfold kP at h
  injection h with h1 h2
  injection h1 with h1
  injection h2 with h2
  injection h2 with h2
  have h1' : (a : Int) = (c : Int) := h1
  have h2' : (b : Int) = (d : Int) := h2
  have e1 : a = c := by omega
  have e2 : b = d := by omega
  rw [e1, e2]
/-- the dict of what is known of some pairs -/
def endsD (R : Routine) (ks : List Pair) : D := .dt (ks.map kP) (ks.map fun q => entD (sem R q))
def lookE (R : Routine) (ks : List Pair) : Pair → Option (Option Ma.Entry) := fun q => if q ∈ ks then some (sem R q) else none
theorem look_map (g : Pair → D) (q : Pair) : ∀ ks : List Pair, lookK (ks.map kP) (ks.map g) (kP q) = if q ∈ ks then some (g q) else none
  | [] => rfl
  | k :: ks => by
    rw [List.map_cons, List.map_cons]
    unfold lookK
    by_cases e : k = q
    · subst e
      rw [if_pos rfl, if_pos List.mem_cons_self]
    · rw [if_neg (fun z => e (kP_inj z)), look_map g q ks]
      by_cases h : q ∈ ks
      · rw [if_pos h, if_pos (List.mem_cons_of_mem _ h)]
      · rw [if_neg h, if_neg]
        intro z
        rcases List.mem_cons.mp z with z | z
        · exact e z.symm
        · exact h z
theorem agr_lookE (R : Routine) (ks : List Pair) : Agr R (lookE R ks) := fun q o h => by
  unfold lookE at h
  split at h
  · exact (Option.some.inj h).symm
  · cases h
def resD : Res → D
  | .need q => .tup [pkD q, .non]
  | .told o => .tup [.non, entD o]
structure Gk (R : Routine) (ks : List Pair) : Prop where
  nd : ks.Nodup
  sub : ∀ q ∈ ks, q ∈ pairsOf R.length
theorem Gk.len {R : Routine} (v : VR R) {ks : List Pair} (g : Gk R ks) : ks.length ≤ 24 := by
  have := len_le_of_sub g.nd g.sub
  rw [Ma.pairs_len] at this
  have := v.hi
  omega
theorem sD_len (l : List Nat) : (l.map nD).length = l.length := List.length_map ..
end PD
/-! The text by places, and what its top leaves. -/
namespace Sp
open PySem PySem.Spec PyProof.Rows L2 PD PDX
def topS (i : Nat) : Stmt := PySem.Challenge.pw_settlepages_k46_whole_least_endless_stac.main.body.getD i (.Pass ⟨0, 0, 0, 0⟩)
/-- what stands behind a module's name -/
structure Tx (K : PySem.W.Frag) (mg : Str → Option Value) : Prop where
  isi : mg "isinstance" = none
  int : mg "int" = none
  bool : mg "bool" = none
  tuple : mg "tuple" = none
  len : mg "len" = none
  all : mg "all" = none
  enum : mg "enumerate" = none
  dict : mg "dict" = none
  range : mg "range" = none
  sorted : mg "sorted" = none
  abs : mg "abs" = none
  list : mg "list" = none
  min : mg "min" = none
  POSTS : ∃ t, mg "POSTS" = some (.int 6 t)
  SORTS : ∃ t, mg "SORTS" = some (.int 3 t)
  MARKS : ∃ t, mg "MARKS" = some (.int 2 t)
  BACK : ∃ t, mg "BACK" = some (.int 3 t)
  STACK : ∃ t, mg "STACK" = some (.int 60 t)
  GREATEST : ∃ t, mg "GREATEST" = some (.int 1000 t)
  REST : ∃ t, mg "REST" = some (.int (-1) t)
  NEVER : ∃ t, mg "NEVER" = some (.str "never" t)
  FOREVER : ∃ a, mg "FOREVER" = some (.ref a) ∧ Dp K (fun _ => none) (.ref a) (.tuple [.str "never", .int 0, .tuple [], .tuple []])
/-- a def of the text that keeps a promise -/
def Cal (P : Program) (w : World) (K : PySem.W.Frag) (mg : Str → Option Value) (base : Heap) (x : Str) (k : Nat) (ps : List Str) (F : List D → (D → Prop) → Prop) : Prop :=
  ∃ f fd, FnOk P w K mg base CX0 k f fd ps (spD K F) ∧ mg x = some (.ref f) ∧ PySem.W.keepIn K (.ref f) = true ∧ Binds K fd ps []
/-- a def where it stands -/
def At (K : PySem.W.Frag) (mg : Str → Option Value) (x : Str) (i : Nat) (ps : List Str) : Prop := ∃ f fd, Fun K x x (topS i) f fd ∧ mg x = some (.ref f) ∧ Binds K fd ps []
theorem lenK (K : PySem.W.Frag) {X : Cx} (e : X.K = K := by rfl) : CallR X (.builtin "len") (fun xs H Q => ∃ p ys, xs = [.ref p] ∧ (SqL K H p ys ∨ SqT K H p ys) ∧ Q (.int ys.length) H) := by
  subst e; exact call_len_seq
theorem catK (K : PySem.W.Frag) {X : Cx} (e : X.K = K := by rfl) : OpR X (binaryOp .Add) (rCatA K) := by
  subst e; exact op_catA
theorem niK (K : PySem.W.Frag) {X : Cx} (e : X.K = K := by rfl) : OpR X (compareOp .NotIn) (rIn K true) := by
  subst e; exact op_notIn_seq
section
variable {P : Program} {w : World} {K : PySem.W.Frag} {mg : Str → Option Value} {base : Heap}
theorem calD {x : Str} {i k : Nat} {N ps : List Str} {F : List D → (D → Prop) → Prop} (a : At K mg x i ps) (S : FnScope N ps (defScope (topS i))) (len : ∀ ds Pd, F ds Pd → ds.length = ps.length)
    (hbody : ∀ (f : Addr) (cdv : Value) (A : Around) (outer : List Env) (s : Shared) (H : Hp) (E : XK), Room k (A.deeper (envOfC x (defScope (topS i)) s.heap.objs.size f cdv)) →
      ∃ t, PSs (cxOf CX0 P w K mg base N x (defScope (topS i)) f cdv A outer s H E).nox (defBody (topS i)) t ∧ ∀ M ds Pd, F ds Pd → WD K M t (fun _ => Pd .non) Pd (startT N ds)) : Cal P w K mg base x (k + 1) ps F := by
  obtain ⟨f, fd, U, m, b⟩ := a
  exact ⟨f, fd, fnD U S len fun cdv A outer s H E hr => hbody f cdv A outer s H E hr, m, U.kp, b⟩
/-- the whole number v is between -/
def fIsWhole : List D → (D → Prop) → Prop := fun ds Pd => ∃ v lo hi : Int, ds = [.int v, .int lo, .int hi] ∧ Pd = fun x => x = .bl (decide (lo ≤ v) && decide (v ≤ hi))
theorem scIsWhole : FnScope ["value", "low", "high"] ["value", "low", "high"] (defScope (topS 15)) := ⟨rfl, rfl, rfl, by decide +kernel, rfl, by decide +kernel, by decide +kernel⟩
theorem ok_isWhole (T : Tx K mg) (a : At K mg "is_whole" 15 ["value", "low", "high"]) : Cal P w K mg base "is_whole" 1 ["value", "low", "high"] fIsWhole := by
  refine calD a scIsWhole (fun ds Pd h => by obtain ⟨v, lo, hi, rfl, _⟩ := h; rfl) fun f cdv A outer s H E hr => ?_
  refine ⟨_, pss_one (ps_ret (pe_and (pe_callB call_isi (by rfl) T.isi (by decide +kernel) (pa_cons (pv 0) (pa_cons (pe_bltn (v := .ty "int") (by rfl) T.int (by decide +kernel) rfl) pa_nil)))
    (pe_and (pe_not (pe_callB call_isi (by rfl) T.isi (by decide +kernel) (pa_cons (pv 0) (pa_cons (pe_bltn (v := .ty "bool") (by rfl) T.bool (by decide +kernel) rfl) pa_nil))))
      (pe_one (pe_chain op_le op_le (pv 1) (pv 0) (pv 2)))))), fun M ds Pd h => ?_⟩
  obtain ⟨v, lo, hi, rfl, rfl⟩ := h
  exact wd_ret (ed_andV (ed_cb (ea_cons (ed_var rfl) (ea_cons ed_ty ea_nil)) (rc_isiI (b := true) (by decide +kernel))) fun _ => ed_andV (ed_notV (ed_cb (ea_cons (ed_var rfl) (ea_cons ed_ty ea_nil)) (rc_isiI (b := false) (by decide +kernel)))) fun _ => ed_chain (ed_var rfl) (ed_var rfl) rv_le (ed_var rfl) rv_le) rfl
end
end Sp
namespace Sp
open PySem PySem.Spec PyProof.Rows L2 PD PDX
section
variable {P : Program} {w : World} {K : PySem.W.Frag} {mg : Str → Option Value} {base : Heap}
theorem mapf (l : List D) (h : D → D) : (l.filter fun _ => true).map h = l.map h := by rw [filter_yes]
/-- sorts -/
def fFitsSorts : List D → (D → Prop) → Prop := fun ds Pd => ∃ (l : List Nat) (m : Int), ds = [sD l, .int m] ∧ (l.length : Int) ≤ m ∧ l.length ≤ 100 ∧ (∀ x ∈ l, x < 3) ∧ Pd = fun x => x = .bl true
theorem scFitsSorts : FnScope ["value", "most", "item"] ["value", "most"] (defScope (topS 16)) := ⟨rfl, rfl, rfl, by decide +kernel, rfl, by decide +kernel, by decide +kernel⟩
theorem ok_fitsSorts (T : Tx K mg) (a : At K mg "fits_sorts" 16 ["value", "most"]) (C1 : Cal P w K mg base "is_whole" 1 ["value", "low", "high"] fIsWhole) : Cal P w K mg base "fits_sorts" 2 ["value", "most"] fFitsSorts := by
  obtain ⟨f1, fd1, G1, m1, k1, b1⟩ := C1
  obtain ⟨tS, hS⟩ := T.SORTS
  refine calD a scFitsSorts (fun ds Pd h => by obtain ⟨l, m, rfl, _⟩ := h; rfl) fun f cdv A outer s H E hr => ?_
  refine ⟨_, pss_one (ps_ret (pe_and (pe_callB call_isi (by rfl) T.isi (by decide +kernel) (pa_cons (pv 0) (pa_cons (pe_bltn (v := .ty "tuple") (by rfl) T.tuple (by decide +kernel) rfl) pa_nil)))
    (pe_and (pe_cmpR op_le (pe_callB call_len_seq (by rfl) T.len PySem.boot_len (pa_cons (pv 0) pa_nil)) (pv 1) (nomark _))
      (pe_one (pe_callB (cr_all rfl) (by rfl) T.all (by decide +kernel) (pa_cons (pe_lc (own := [("item", 2)]) (g := gName 2) rfl scFitsSorts.nd (pi_tup (pv 0)) (blkOk_by (own := [("item", 2)]) (N := ["value", "most", "item"]) (sc := defScope (topS 16)) (by decide +kernel))
        (fun _ _ _ _ _ => pg_name (i := 2) scFitsSorts.nd rfl (Or.inl rfl)) (fun _ _ _ _ _ => pts_nil)
        (fun _ _ _ _ _ => pe_call G1 hr (by rfl) m1 k1 b1 .nil pass0 (pa_cons (pv 2) (pa_cons pe_int (pa_cons (pe_op op_sub (pe_glob (v := .int 3) (by rfl) hS ⟨_, rfl⟩) pe_int) pa_nil))))) pa_nil)))))), fun M ds Pd h => ?_⟩
  obtain ⟨l, m, rfl, hm, h100, h3, rfl⟩ := h
  refine wd_ret (ed_andV (ed_cb (ea_cons (ed_var rfl) (ea_cons ed_ty ea_nil)) (rc_isiT (b := true) (by decide +kernel))) fun _ => ed_andV (ed_op (ed_cb (ea_cons (ed_var rfl) ea_nil) rc_lenT) (ed_var rfl) rv_le) fun _ =>
    ed_allT (ed_var rfl) (by rw [List.length_map]; omega) fun x hx M => ?_) ?_
  · obtain ⟨n, hn, rfl⟩ := List.mem_map.mp hx
    refine ed_callD (ea_cons (ed_var rfl) (ea_cons ed_int (ea_cons (ed_op ed_int ed_int rv_sub) ea_nil))) ⟨(n : Int), 0, 3 - 1, rfl, ?_⟩
    have h1 : decide ((0 : Int) ≤ (n : Int)) = true := decide_eq_true (by omega)
    have h2 : decide ((n : Int) ≤ 3 - 1) = true := decide_eq_true (by have := h3 n hn; omega)
    rw [h1, h2]; rfl
  have : decide (((l.map nD).length : Int) ≤ m) = true := decide_eq_true (by rw [List.length_map]; exact hm)
  rw [this]; rfl
/-- a move -/
def fFitsMove : List D → (D → Prop) → Prop := fun ds Pd => ∃ (m : Ma.Move) (n : Nat), ds = [mD m, .int (n : Int)] ∧ Ma.VM n m ∧ Pd = fun x => x = .bl true
theorem scFitsMove : FnScope ["value", "posts"] ["value", "posts"] (defScope (topS 17)) := ⟨rfl, rfl, rfl, by decide +kernel, rfl, by decide +kernel, by decide +kernel⟩
theorem ok_fitsMove (T : Tx K mg) (a : At K mg "fits_move" 17 ["value", "posts"]) (C1 : Cal P w K mg base "is_whole" 1 ["value", "low", "high"] fIsWhole) (C2 : Cal P w K mg base "fits_sorts" 2 ["value", "most"] fFitsSorts) : Cal P w K mg base "fits_move" 3 ["value", "posts"] fFitsMove := by
  obtain ⟨f1, fd1, G1, m1, k1, b1⟩ := C1
  obtain ⟨f2, fd2, G2, m2, k2, b2⟩ := C2
  obtain ⟨tM, hM⟩ := T.MARKS
  obtain ⟨tB, hB⟩ := T.BACK
  obtain ⟨tR, hR⟩ := T.REST
  refine calD a scFitsMove (fun ds Pd h => by obtain ⟨m, n, rfl, _⟩ := h; rfl) fun f cdv A outer s H E hr => ?_
  refine ⟨_, pss_cons (ps_if (PW.pt (pw_or (pt_not (pt_val (pe_callB call_isi (by rfl) T.isi (by decide +kernel) (pa_cons (pv 0) (pa_cons (pe_bltn (v := .ty "tuple") (by rfl) T.tuple (by decide +kernel) rfl) pa_nil)))))
      (pw_or1 (pt_cmpR op_ne (pe_callB call_len_seq (by rfl) T.len PySem.boot_len (pa_cons (pv 0) pa_nil)) pe_int (nomark _))))) (pss_one (ps_ret pe_bl)) pss_nil)
    (pss_one (ps_ret (pe_and (pe_call G2 hr (by rfl) m2 k2 b2 .nil pass0 (pa_cons (pe_ix ix_tup (pv 0) pe_int (fun _ _ => rfl)) (pa_cons (pe_glob (v := .int 2) (by rfl) hM ⟨_, rfl⟩) pa_nil)))
      (pe_and (pe_call G2 hr (by rfl) m2 k2 b2 .nil pass0 (pa_cons (pe_ix ix_tup (pv 0) pe_int (fun _ _ => rfl)) (pa_cons (pe_glob (v := .int 3) (by rfl) hB ⟨_, rfl⟩) pa_nil)))
      (pe_one (pe_call G1 (hr.mono (by decide)) (by rfl) m1 k1 b1 .nil pass0 (pa_cons (pe_ix ix_tup (pv 0) pe_int (fun _ _ => rfl)) (pa_cons (pe_glob (v := .int (-1)) (by rfl) hR ⟨_, rfl⟩) (pa_cons (pe_op op_sub (pv 1) pe_int) pa_nil))))))))), fun M ds Pd h => ?_⟩
  obtain ⟨m, n, rfl, vm, rfl⟩ := h
  obtain ⟨mk, bk, nx⟩ := m
  refine wd_seq (wd_if (b := false) (et_is (et_or (et_not (et_B (ed_cb (ea_cons (ed_var rfl) (ea_cons ed_ty ea_nil)) (rc_isiT (b := true) (by decide +kernel))))) fun _ => et_test (ed_op (ed_cb (ea_cons (ed_var rfl) ea_nil) rc_lenT) ed_int rv_neI)) rfl) (fun h => nomatch h) fun _ => wd_next ?_)
  refine wd_ret (ed_andV (ed_callD (ea_cons (ed_op (ed_var rfl) ed_int (rv_ixT (d := sD mk) rfl)) (ea_cons ed_int ea_nil)) ⟨mk, 2, rfl, ?_, ?_, vm.m2, rfl⟩) fun _ => ed_andV (ed_callD (ea_cons (ed_op (ed_var rfl) ed_int (rv_ixT (d := sD bk) rfl)) (ea_cons ed_int ea_nil)) ⟨bk, 3, rfl, ?_, ?_, vm.b2, rfl⟩) fun _ =>
    ed_is (ed_callD (ea_cons (ed_op (ed_var rfl) ed_int (rv_ixT (d := eD nx) rfl)) (ea_cons ed_int (ea_cons (ed_op (ed_var rfl) ed_int rv_sub) ea_nil))) ⟨(match nx with | none => -1 | some h => (h : Int)), -1, (n : Int) - 1, ?_, rfl⟩) (e := .bl true) ?_) rfl
  · have := vm.m1; simp only at this; omega
  · have := vm.m1; simp only at this; omega
  · have := vm.b1; simp only at this; omega
  · have := vm.b1; simp only at this; omega
  · cases nx <;> rfl
  · cases nx with
    | none =>
      show D.bl (decide ((-1 : Int) ≤ -1) && decide ((-1 : Int) ≤ (n : Int) - 1)) = .bl true
      rw [decide_eq_true (by omega), decide_eq_true (by omega)]; rfl
    | some h =>
      have := vm.nx h rfl
      show D.bl (decide ((-1 : Int) ≤ (h : Int)) && decide ((h : Int) ≤ (n : Int) - 1)) = .bl true
      rw [decide_eq_true (by omega), decide_eq_true (by omega)]; rfl
/-- a routine -/
def fFitsRoutine : List D → (D → Prop) → Prop := fun ds Pd => ∃ R : Ma.Routine, ds = [rD R] ∧ Ma.VR R ∧ Pd = fun x => x = .bl true
theorem scFitsRoutine : FnScope ["value", "post", "move"] ["value"] (defScope (topS 18)) := ⟨rfl, rfl, rfl, by decide +kernel, rfl, by decide +kernel, by decide +kernel⟩
theorem ok_fitsRoutine (T : Tx K mg) (a : At K mg "fits_routine" 18 ["value"]) (C1 : Cal P w K mg base "fits_move" 3 ["value", "posts"] fFitsMove) : Cal P w K mg base "fits_routine" 4 ["value"] fFitsRoutine := by
  obtain ⟨f1, fd1, G1, m1, k1, b1⟩ := C1
  obtain ⟨tP, hP⟩ := T.POSTS
  obtain ⟨tS, hS⟩ := T.SORTS
  refine calD a scFitsRoutine (fun ds Pd h => by obtain ⟨R, rfl, _⟩ := h; rfl) fun f cdv A outer s H E hr => ?_
  refine ⟨_, pss_cons (ps_if (PW.pt (pw_or (pt_not (pt_val (pe_callB call_isi (by rfl) T.isi (by decide +kernel) (pa_cons (pv 0) (pa_cons (pe_bltn (v := .ty "tuple") (by rfl) T.tuple (by decide +kernel) rfl) pa_nil)))))
      (pw_or1 (pt_not (pt_chain op_le op_le pe_int (pe_callB call_len_seq (by rfl) T.len PySem.boot_len (pa_cons (pv 0) pa_nil)) (pe_glob (v := .int 6) (by rfl) hP ⟨_, rfl⟩)))))) (pss_one (ps_ret pe_bl)) pss_nil)
    (pss_cons (ps_for PassesOwn.never rfl (pi_tup (pv 0)) (pg_name (i := 1) scFitsRoutine.nd rfl (.inl rfl))
      (pss_cons (ps_if (PW.pt (pw_or (pt_not (pt_val (pe_callB call_isi (by rfl) T.isi (by decide +kernel) (pa_cons (pv 1) (pa_cons (pe_bltn (v := .ty "tuple") (by rfl) T.tuple (by decide +kernel) rfl) pa_nil)))))
        (pw_or1 (pt_cmpR op_ne (pe_callB call_len_seq (by rfl) T.len PySem.boot_len (pa_cons (pv 1) pa_nil)) (pe_op op_add (pe_glob (v := .int 3) (by rfl) hS ⟨_, rfl⟩) pe_int) (nomark _))))) (pss_one (ps_ret pe_bl)) pss_nil)
      (pss_one (ps_if (pt_not (pt_val (pe_callB (cr_all rfl) (by rfl) T.all (by decide +kernel) (pa_cons (pe_lc (own := [("move", 2)]) (g := gName 2) rfl scFitsRoutine.nd (pi_tup (pv 1)) (blkOk_by (own := [("move", 2)]) (N := ["value", "post", "move"]) (sc := defScope (topS 18)) (by decide +kernel))
        (fun _ _ _ _ _ => pg_name (i := 2) scFitsRoutine.nd rfl (Or.inl rfl)) (fun _ _ _ _ _ => pts_nil)
        (fun _ _ _ _ _ => pe_call G1 hr (by rfl) m1 k1 b1 .nil pass0 (pa_cons (pv 2) (pa_cons (pe_callB (lenK K) (by rfl) T.len PySem.boot_len (pa_cons (pv 0) pa_nil)) pa_nil)))) pa_nil)))) (pss_one (ps_ret pe_bl)) pss_nil))))
    (pss_one (ps_ret pe_bl))), fun M ds Pd h => ?_⟩
  obtain ⟨R, rfl, v, rfl⟩ := h
  have hl : ((R.map pD).length : Int) = (R.length : Int) := by rw [List.length_map]
  refine wd_seq (wd_if (b := false) (et_is (et_or (et_not (et_B (ed_cb (ea_cons (ed_var rfl) (ea_cons ed_ty ea_nil)) (rc_isiT (b := true) (by decide +kernel))))) fun _ => et_not (et_test (ed_chain ed_int (ed_cb (ea_cons (ed_var rfl) ea_nil) rc_lenT) rv_le ed_int rv_le))) ?_) (fun h => nomatch h) fun _ => wd_next ?_)
  · have h1 : decide ((1 : Int) ≤ ((R.map pD).length : Int)) = true := decide_eq_true (by rw [hl]; have := v.lo; omega)
    have h2 : decide (((R.map pD).length : Int) ≤ 6) = true := decide_eq_true (by rw [hl]; have := v.hi; omega)
    show (!true || !(decide ((1 : Int) ≤ ((R.map pD).length : Int)) && decide (((R.map pD).length : Int) ≤ 6))) = false
    rw [h1, h2]; rfl
  · refine wd_seq (wd_forT (ed_var rfl) (fun _ τ => ∃ x y, τ = [some (rD R), x, y]) ⟨_, _, rfl⟩ (fun i x τ hx hI => ?_) fun τ hI => ?_)
    · obtain ⟨y, z, rfl⟩ := hI
      rw [List.getElem?_map] at hx
      cases hp : R[i]? with
      | none => rw [hp] at hx; cases hx
      | some post =>
        rw [hp] at hx
        cases hx
        have hpm := List.mem_of_getElem? hp
        have h4 := v.four _ hpm
        refine ⟨_, gd_name, ?_⟩
        refine wd_seq (wd_if (b := false) (et_is (et_or (et_not (et_B (ed_cb (ea_cons (ed_var rfl) (ea_cons ed_ty ea_nil)) (rc_isiT (b := true) (by decide +kernel))))) fun _ => et_test (ed_op (ed_cb (ea_cons (ed_var rfl) ea_nil) rc_lenT) (ed_op ed_int ed_int rv_add) rv_neI)) ?_) (fun h => nomatch h) fun _ => wd_next ?_)
        · show (!true || !decide (((post.map mD).length : Int) = 3 + 1)) = false
          rw [List.length_map, h4]; rfl
        · refine wd_if (b := false) (et_is (et_not (et_B (ed_allT (ed_var rfl) (by rw [List.length_map, h4]; decide) fun x hx M => ?_))) rfl) (fun h => nomatch h) fun _ => wd_next ⟨_, _, rfl⟩
          obtain ⟨m, hm, rfl⟩ := List.mem_map.mp hx
          exact ed_callD (ea_cons (ed_var rfl) (ea_cons (ed_cb (ea_cons (ed_var rfl) ea_nil) rc_lenT) ea_nil)) ⟨m, R.length, by rw [List.length_map], v.mv _ hpm _ hm, rfl⟩
    · obtain ⟨y, z, rfl⟩ := hI
      exact wd_ret ed_bl rfl
/-- need_routine, need_stack -/
def fNeedRoutine : List D → (D → Prop) → Prop := fun ds Pd => ∃ R : Ma.Routine, ds = [rD R] ∧ Ma.VR R ∧ Pd = fun x => x = .non
theorem scNeedRoutine : FnScope ["value"] ["value"] (defScope (topS 19)) := ⟨rfl, rfl, rfl, by decide +kernel, rfl, by decide +kernel, by decide +kernel⟩
theorem ok_needRoutine (a : At K mg "need_routine" 19 ["value"]) (C1 : Cal P w K mg base "fits_routine" 4 ["value"] fFitsRoutine) : Cal P w K mg base "need_routine" 5 ["value"] fNeedRoutine := by
  obtain ⟨f1, fd1, G1, m1, k1, b1⟩ := C1
  refine calD a scNeedRoutine (fun ds Pd h => by obtain ⟨R, rfl, _⟩ := h; rfl) fun f cdv A outer s H E hr => ?_
  refine ⟨_, pss_one (ps_if (pt_not (pt_val (pe_call G1 hr (by rfl) m1 k1 b1 .nil pass0 (pa_cons (pv 0) pa_nil)))) pss_never pss_nil), fun M ds Pd h => ?_⟩
  obtain ⟨R, rfl, v, rfl⟩ := h
  exact wd_if (b := false) (et_is (et_not (et_B (ed_callD (ea_cons (ed_var rfl) ea_nil) ⟨R, rfl, v, rfl⟩))) rfl) (fun h => nomatch h) fun _ => wd_next rfl
def fNeedStack : List D → (D → Prop) → Prop := fun ds Pd => ∃ l : List Nat, ds = [sD l] ∧ l.length ≤ 60 ∧ (∀ x ∈ l, x < 3) ∧ Pd = fun x => x = .non
theorem scNeedStack : FnScope ["value"] ["value"] (defScope (topS 20)) := ⟨rfl, rfl, rfl, by decide +kernel, rfl, by decide +kernel, by decide +kernel⟩
theorem ok_needStack (T : Tx K mg) (a : At K mg "need_stack" 20 ["value"]) (C1 : Cal P w K mg base "fits_sorts" 2 ["value", "most"] fFitsSorts) : Cal P w K mg base "need_stack" 3 ["value"] fNeedStack := by
  obtain ⟨f1, fd1, G1, m1, k1, b1⟩ := C1
  obtain ⟨tS, hS⟩ := T.STACK
  refine calD a scNeedStack (fun ds Pd h => by obtain ⟨R, rfl, _⟩ := h; rfl) fun f cdv A outer s H E hr => ?_
  refine ⟨_, pss_one (ps_if (pt_not (pt_val (pe_call G1 hr (by rfl) m1 k1 b1 .nil pass0 (pa_cons (pv 0) (pa_cons (pe_glob (v := .int 60) (by rfl) hS ⟨_, rfl⟩) pa_nil))))) pss_never pss_nil), fun M ds Pd h => ?_⟩
  obtain ⟨l, rfl, h1, h2, rfl⟩ := h
  exact wd_if (b := false) (et_is (et_not (et_B (ed_callD (ea_cons (ed_var rfl) (ea_cons ed_int ea_nil)) ⟨l, 60, rfl, by omega, by omega, h2, rfl⟩))) rfl) (fun h => nomatch h) fun _ => wd_next rfl
end
end Sp
/-! Shapes as PyData: equality, room; the keys' hashes; tables of pairs put together. -/
namespace PD
open PySem PySem.Spec PyProof.Rows L2 PDX Ma
/-! ### equality and room of what the program compares -/
theorem canLay_list (ps : List PyData) (h : ∀ p ∈ ps, p.canLay0 = true ∧ p.depth ≤ 8) : PyData.canLayAll0 ps = true ∧ PyData.depthAll ps ≤ 8 := by
  induction ps with
  | nil => exact ⟨by unfold PyData.canLayAll0; rfl, by unfold PyData.depthAll; omega⟩
  | cons p ps ih =>
    obtain ⟨i1, i2⟩ := ih fun x hx => h x (List.mem_cons_of_mem _ hx)
    obtain ⟨h1, h2⟩ := h p List.mem_cons_self
    refine ⟨?_, ?_⟩
    · unfold PyData.canLayAll0
      rw [h1, i1]; rfl
    · unfold PyData.depthAll
      omega
theorem toPs_map {α : Type} (f : α → D) : ∀ l : List α, toPs (l.map f) = l.map fun x => toP (f x)
  | [] => by unfold toPs; rfl
  | a :: l => by
    rw [List.map_cons]
    unfold toPs
    rw [toPs_map f l]
    rfl
theorem noDs_map {α : Type} (f : α → D) : ∀ l : List α, (∀ x ∈ l, noD (f x) = true) → noDs (l.map f) = true
  | [], _ => by unfold noDs; rfl
  | a :: l, h => by
    rw [List.map_cons]
    unfold noDs
    rw [h a List.mem_cons_self, noDs_map f l fun x hx => h x (List.mem_cons_of_mem _ hx)]
    rfl
theorem shaped_tup (ps : List PyData) (h : ∀ p ∈ ps, p.canLay0 = true ∧ p.depth ≤ 8) : SeqAt.shaped (.tuple ps) = true := by
  obtain ⟨h1, h2⟩ := canLay_list ps h
  unfold SeqAt.shaped PyData.canLay0 PyData.depth
  rw [h1, Bool.true_and]
  exact decide_eq_true (by omega)
theorem shaped_lst (ps : List PyData) (h : ∀ p ∈ ps, p.canLay0 = true ∧ p.depth ≤ 8) : SeqAt.shaped (.list ps) = true := by
  obtain ⟨h1, h2⟩ := canLay_list ps h
  unfold SeqAt.shaped PyData.canLay0 PyData.depth
  rw [h1, Bool.true_and]
  exact decide_eq_true (by omega)
theorem int_room (i : Int) : (PyData.int i).canLay0 = true ∧ (PyData.int i).depth ≤ 8 := ⟨by unfold PyData.canLay0; rfl, by unfold PyData.depth; omega⟩
theorem depth_tup {ps : List PyData} {n : Nat} (h : ∀ p ∈ ps, p.depth ≤ n) : (PyData.tuple ps).depth ≤ n + 1 := by
  have : PyData.depthAll ps ≤ n := by
    induction ps with
    | nil => unfold PyData.depthAll; omega
    | cons p ps ih =>
      have h1 := h p List.mem_cons_self
      have h2 := ih fun x hx => h x (List.mem_cons_of_mem _ hx)
      unfold PyData.depthAll
      omega
  unfold PyData.depth
  omega
theorem sortsP_room (l : List Nat) : (toP (sD l)).canLay0 = true ∧ (toP (sD l)).depth ≤ 1 := by
  unfold sD toP
  rw [toPs_map]
  have h1 := (canLay_list (l.map fun x => toP (nD x)) fun p hp => by
    obtain ⟨n, _, rfl⟩ := List.mem_map.mp hp
    exact int_room _).1
  refine ⟨by unfold PyData.canLay0; exact h1, depth_tup (n := 0) fun p hp => ?_⟩
  obtain ⟨n, _, rfl⟩ := List.mem_map.mp hp
  show (toP (.int (n : Int))).depth ≤ 0
  unfold toP PyData.depth
  exact Nat.le_refl _
theorem sD_no (l : List Nat) : noD (sD l) = true := by
  unfold sD noD
  exact noDs_map nD l fun x _ => by unfold nD noD; rfl
theorem sD_shaped (l : List Nat) : SeqAt.shaped (toP (sD l)) = true := by
  obtain ⟨h1, h2⟩ := sortsP_room l
  unfold SeqAt.shaped
  rw [h1, Bool.true_and]
  exact decide_eq_true (by omega)
theorem eqv_sD : ∀ a b : List Nat, PyData.eqv (toP (sD a)) (toP (sD b)) = decide (a = b) := by
  have gen : ∀ a b : List Nat, PyData.eqvAll (a.map fun x => toP (nD x)) (b.map fun x => toP (nD x)) = decide (a = b) := by
    intro a
    induction a with
    | nil =>
      intro b
      cases b with
      | nil => rfl
      | cons y b => rfl
    | cons x a ih =>
      intro b
      cases b with
      | nil => rfl
      | cons y b =>
        rw [List.map_cons, List.map_cons]
        unfold PyData.eqvAll
        rw [ih b]
        have : PyData.eqv (toP (nD x)) (toP (nD y)) = decide (x = y) := by
          show PyData.eqv (toP (.int (x : Int))) (toP (.int (y : Int))) = _
          unfold toP PyData.eqv
          rw [Bool.eq_iff_iff, beq_iff_eq, decide_eq_true_iff]
          constructor <;> (intro h; omega)
        rw [this, Bool.eq_iff_iff]
        simp
  intro a b
  unfold sD toP
  rw [toPs_map, toPs_map]
  unfold PyData.eqv
  exact gen a b
def pkP (p : Pair) : PyData := .tuple [.int (p.1 : Int), .int (p.2 : Int)]
theorem toP_pk (p : Pair) : toP (pkD p) = pkP p := by
  unfold pkD keyD kP
  show toP (.tup [.int (p.1 : Int), .int (p.2 : Int)]) = _
  unfold toP
  simp only [toPs, toP, pkP]
theorem pk_no (p : Pair) : noD (pkD p) = true := by
  unfold pkD keyD kP
  show noD (.tup [.int (p.1 : Int), .int (p.2 : Int)]) = true
  unfold noD
  simp [noDs, noD]
theorem pkP_room (p : Pair) : (pkP p).canLay0 = true ∧ (pkP p).depth ≤ 8 := by
  refine ⟨?_, ?_⟩
  · unfold pkP PyData.canLay0
    simp [PyData.canLayAll0, PyData.canLay0]
  · exact Nat.le_trans (depth_tup (n := 0) fun q hq => by
      rcases List.mem_cons.mp hq with e | hq
      · rw [e]; unfold PyData.depth; omega
      · rw [List.mem_singleton.mp hq]; unfold PyData.depth; omega) (by omega)
theorem pk_shaped (p : Pair) : SeqAt.shaped (toP (pkD p)) = true := by
  rw [toP_pk]
  obtain ⟨h1, h2⟩ := pkP_room p
  unfold SeqAt.shaped
  rw [h1, Bool.true_and]
  exact decide_eq_true (by omega)
theorem eqv_pk (p q : Pair) : PyData.eqv (pkP p) (pkP q) = decide (p = q) := by
  unfold pkP PyData.eqv
  rw [Bool.eq_iff_iff]
  simp [PyData.eqvAll, PyData.eqv]
  constructor
  · rintro ⟨h1, h2⟩
    obtain ⟨a, b⟩ := p
    obtain ⟨c, d⟩ := q
    have h1' : (a : Int) = (c : Int) := h1
    have h2' : (b : Int) = (d : Int) := h2
    have e1 : a = c := by omega
    have e2 : b = d := by omega
    rw [e1, e2]
  · intro h; rw [h]; exact ⟨rfl, rfl⟩
/-- rows of pairs -/
def linD (l : List Pair) : D := .lst (l.map pkD)
theorem lin_toPs (l : List Pair) : toPs (l.map pkD) = l.map pkP := by
  rw [toPs_map]
  exact List.map_congr_left fun x _ => toP_pk x
theorem lin_no (l : List Pair) : noDs (l.map pkD) = true := noDs_map pkD l fun x _ => pk_no x
theorem lin_shaped (l : List Pair) : SeqAt.shaped (.list (toPs (l.map pkD))) = true := by
  rw [lin_toPs]
  exact shaped_lst _ fun p hp => by
    obtain ⟨q, _, rfl⟩ := List.mem_map.mp hp
    exact pkP_room q
theorem lin_any (l : List Pair) (q : Pair) : ((toPs (l.map pkD)).any fun z => PyData.eqv z (toP (pkD q))) = decide (q ∈ l) := by
  rw [lin_toPs, toP_pk]
  induction l with
  | nil => rfl
  | cons p l ih =>
    rw [List.map_cons, List.any_cons, ih, eqv_pk, Bool.eq_iff_iff]
    simp
    constructor
    · rintro (h | h)
      · exact .inl h.symm
      · exact .inr h
    · rintro (h | h)
      · exact .inl h.symm
      · exact .inr h
theorem lin_nil (l : List Pair) : PyData.eqv (toP (linD l)) (toP (.lst [])) = decide (l = []) := by
  unfold linD toP
  rw [lin_toPs]
  cases l with
  | nil => rfl
  | cons p l => rfl
/-- the first place -/
theorem first_at {α : Type} [DecidableEq α] : ∀ {l : List α} {q : α}, q ∈ l → ∃ j : Nat, l[j]? = some q ∧ ∀ m : Nat, m < j → l[m]? ≠ some q
  | [], _, h => by cases h
  | a :: l, q, h => by
    by_cases e : a = q
    · exact ⟨0, by rw [e]; rfl, fun m hm => absurd hm (Nat.not_lt_zero _)⟩
    · have hq : q ∈ l := by
        rcases List.mem_cons.mp h with h | h
        · exact absurd h.symm e
        · exact h
      obtain ⟨j, h1, h2⟩ := first_at hq
      refine ⟨j + 1, by simpa using h1, fun m hm => ?_⟩
      cases m with
      | zero => simpa using e
      | succ m => simpa using h2 m (by omega)
/-! ### hashes -/
def hash2 (a b : Nat) : Int := reduceHash (Builtin.Tuple.tupleHashOf [hashInt (a : Int), hashInt (b : Int)])
theorem hash_kP (Pg : Program) (w : World) (p : Pair) : tupleKeyHash (mixKind Pg w) (kP p) = hash2 p.1 p.2 := rfl
def hashes : List Int := (pairsOf 6).map fun p => hash2 p.1 p.2
theorem hashes_nodup : hashes.Nodup := by decide +kernel
theorem hash_inj {p q : Pair} (hp : p ∈ pairsOf 6) (hq : q ∈ pairsOf 6) (h : hash2 p.1 p.2 = hash2 q.1 q.2) : p = q := by
  have gen : ∀ {l : List Pair}, (l.map fun p => hash2 p.1 p.2).Nodup → p ∈ l → q ∈ l → p = q := by
    intro l
    induction l with
    | nil => intro _ h; cases h
    | cons a l ih =>
      intro nd h1 h2
      rw [List.map_cons, List.nodup_cons] at nd
      rcases List.mem_cons.mp h1 with e1 | h1
      · rcases List.mem_cons.mp h2 with e2 | h2
        · rw [e1, e2]
        · exfalso
          refine nd.1 (List.mem_map.mpr ⟨q, h2, ?_⟩)
          rw [← h, e1]
      · rcases List.mem_cons.mp h2 with e2 | h2
        · exfalso
          refine nd.1 (List.mem_map.mpr ⟨p, h1, ?_⟩)
          rw [h, e2]
        · exact ih nd.2 h1 h2
  exact gen hashes_nodup hp hq
theorem pairs6 {n : Nat} (h : n ≤ 6) {q : Pair} (hq : q ∈ pairsOf n) : q ∈ pairsOf 6 := by
  rw [mem_pairs] at hq ⊢
  exact ⟨by omega, hq.2⟩
theorem apart_of {Pg : Program} {w : World} {R : Routine} (v : VR R) {ks : List Pair} (g : Gk R ks) : PDX.Apart Pg w (ks.map kP) := by
  unfold PDX.Apart
  rw [List.map_map]
  have gen : ∀ {l : List Pair}, l.Nodup → (∀ q ∈ l, q ∈ pairsOf 6) → (l.map fun p => hash2 p.1 p.2).Nodup := by
    intro l
    induction l with
    | nil => intro _ _; exact List.nodup_nil
    | cons a l ih =>
      intro nd hs
      rw [List.nodup_cons] at nd
      rw [List.map_cons, List.nodup_cons]
      refine ⟨fun h => ?_, ih nd.2 fun q hq => hs q (List.mem_cons_of_mem _ hq)⟩
      obtain ⟨q, hq, e⟩ := List.mem_map.mp h
      have := hash_inj (hs q (List.mem_cons_of_mem _ hq)) (hs a List.mem_cons_self) e
      rw [this] at hq
      exact nd.1 hq
  exact gen g.nd fun q hq => pairs6 v.hi (g.sub q hq)
/-! ### tables put together -/
def addOne (ks : List Pair) (q : Pair) : List Pair := if q ∈ ks then ks else ks ++ [q]
def addAll : List Pair → List Pair → List Pair
  | ks, [] => ks
  | ks, q :: l => addAll (addOne ks q) l
theorem mem_addOne {ks : List Pair} {q x : Pair} : x ∈ addOne ks q ↔ x ∈ ks ∨ x = q := by
  unfold addOne
  split
  · rename_i h
    constructor
    · exact .inl
    · rintro (h1 | rfl)
      · exact h1
      · exact h
  · rw [List.mem_append, List.mem_singleton]
theorem mem_addAll {x : Pair} : ∀ {l ks : List Pair}, x ∈ addAll ks l ↔ x ∈ ks ∨ x ∈ l
  | [], ks => by simp [addAll]
  | q :: l, ks => by
    show x ∈ addAll (addOne ks q) l ↔ _
    rw [mem_addAll (l := l), mem_addOne, List.mem_cons, or_assoc]
theorem Gk.one {R : Routine} {ks : List Pair} (g : Gk R ks) {q : Pair} (hq : q ∈ pairsOf R.length) : Gk R (addOne ks q) := by
  refine ⟨?_, fun x hx => ?_⟩
  · unfold addOne
    split
    · exact g.nd
    · rename_i h
      rw [List.nodup_append]
      refine ⟨g.nd, by simp, ?_⟩
      intro a ha b hb
      rw [List.mem_singleton.mp hb]
      exact fun e => h (e ▸ ha)
  · rcases mem_addOne.mp hx with h | h
    · exact g.sub x h
    · rw [h]; exact hq
theorem Gk.all {R : Routine} : ∀ {l ks : List Pair}, Gk R ks → (∀ q ∈ l, q ∈ pairsOf R.length) → Gk R (addAll ks l)
  | [], _, g, _ => g
  | q :: l, ks, g, h => Gk.all (l := l) (ks := addOne ks q) (g.one (h q List.mem_cons_self)) fun x hx => h x (List.mem_cons_of_mem _ hx)
theorem put_one (g : Pair → D) (ks : List Pair) (q : Pair) : putKs (ks.map kP) (kP q) = (addOne ks q).map kP ∧ putDs (ks.map kP) (ks.map g) (kP q) (g q) = (addOne ks q).map g := by
  have hm : kP q ∈ ks.map kP ↔ q ∈ ks := by
    constructor
    · intro h
      obtain ⟨x, hx, e⟩ := List.mem_map.mp h
      rw [← kP_inj e]; exact hx
    · intro h; exact List.mem_map.mpr ⟨q, h, rfl⟩
  unfold putKs putDs addOne
  by_cases h : q ∈ ks
  · rw [if_pos (hm.mpr h), if_pos (hm.mpr h), if_pos h]
    exact ⟨rfl, rfl⟩
  · rw [if_neg (fun z => h (hm.mp z)), if_neg (fun z => h (hm.mp z)), if_neg h, List.map_append, List.map_append]
    exact ⟨rfl, rfl⟩
theorem put_at (g : Pair → D) (ks : List Pair) (q : Pair) : ∀ i : Nat, (ks.map kP)[i]? = some (kP q) → (ks.map g)[i]? = some (g q) := fun i h => by
  rw [List.getElem?_map] at h ⊢
  cases e : ks[i]? with
  | none => rw [e] at h; cases h
  | some x =>
    rw [e] at h
    have : kP x = kP q := by injection h
    rw [kP_inj this]
    rfl
theorem put_all (g : Pair → D) : ∀ (l ks : List Pair), mergeKD (ks.map kP) (ks.map g) (l.map kP) (l.map g) = ((addAll ks l).map kP, (addAll ks l).map g) ∧ Agree (ks.map kP) (ks.map g) (l.map kP) (l.map g)
  | [], ks => ⟨by unfold mergeKD addAll; rfl, by unfold Agree; trivial⟩
  | q :: l, ks => by
    obtain ⟨h1, h2⟩ := put_one g ks q
    obtain ⟨i1, i2⟩ := put_all g l (addOne ks q)
    rw [List.map_cons, List.map_cons]
    refine ⟨?_, ?_⟩
    · rw [mergeKD, h1, h2, i1]
      rfl
    · refine ⟨put_at g ks q, ?_⟩
      rw [h1, h2]
      exact i2
/-! ### counting -/
def cnt (f : Pair → Bool) : List Pair → Nat
  | [] => 0
  | p :: l => (if f p then 1 else 0) + cnt f l
theorem cnt_le {f g : Pair → Bool} : ∀ {l : List Pair}, (∀ x ∈ l, f x = true → g x = true) → cnt f l ≤ cnt g l
  | [], _ => Nat.le_refl _
  | p :: l, h => by
    have ih := cnt_le (l := l) fun x hx => h x (List.mem_cons_of_mem _ hx)
    unfold cnt
    by_cases c : f p = true
    · rw [if_pos c, if_pos (h p List.mem_cons_self c)]
      omega
    · rw [if_neg c]
      omega
theorem cnt_lt {f g : Pair → Bool} : ∀ {l : List Pair}, (∀ x ∈ l, f x = true → g x = true) → (∃ x ∈ l, f x = false ∧ g x = true) → cnt f l < cnt g l
  | [], _, ⟨x, hx, _⟩ => by cases hx
  | p :: l, h, ⟨x, hx, h1, h2⟩ => by
    have hl := cnt_le (l := l) fun x hx => h x (List.mem_cons_of_mem _ hx)
    unfold cnt
    rcases List.mem_cons.mp hx with e | hx
    · subst e
      rw [h1, h2]
      simp only [if_true, Bool.false_eq_true, if_false]
      omega
    · have ih := cnt_lt (l := l) (fun x hx => h x (List.mem_cons_of_mem _ hx)) ⟨x, hx, h1, h2⟩
      by_cases c : f p = true
      · rw [if_pos c, if_pos (h p List.mem_cons_self c)]
        omega
      · rw [if_neg c]
        omega
/-- what falls -/
def meas (n : Nat) (ks l : List Pair) : Nat := 2 * cnt (fun q => !decide (q ∈ ks) && !decide (q ∈ l)) (pairsOf n) + cnt (fun q => !decide (q ∈ ks)) (pairsOf n) + l.length
theorem meas_push {n : Nat} {ks l : List Pair} {q : Pair} (hq : q ∈ pairsOf n) (h1 : q ∉ ks) (h2 : q ∉ l) : meas n ks (l ++ [q]) < meas n ks l := by
  have := cnt_lt (f := fun x => !decide (x ∈ ks) && !decide (x ∈ l ++ [q])) (g := fun x => !decide (x ∈ ks) && !decide (x ∈ l)) (l := pairsOf n) (fun x _ h => by
    simp at h ⊢; exact ⟨h.1, h.2.1⟩) ⟨q, hq, by simp, by simp [h1, h2]⟩
  unfold meas
  rw [List.length_append, List.length_singleton]
  omega
theorem meas_pop {n : Nat} {ks ks' l : List Pair} {q : Pair} (h : ∀ x, x ∈ ks' ↔ x ∈ ks ∨ x = q) : meas n ks' l < meas n ks (l ++ [q]) := by
  have h1 := cnt_le (f := fun x => !decide (x ∈ ks') && !decide (x ∈ l)) (g := fun x => !decide (x ∈ ks) && !decide (x ∈ l ++ [q])) (l := pairsOf n) (fun x _ hx => by
    simp at hx ⊢
    have := h x
    refine ⟨fun z => hx.1 (this.mpr (.inl z)), hx.2, fun z => hx.1 (this.mpr (.inr z))⟩)
  have h2 := cnt_le (f := fun x => !decide (x ∈ ks')) (g := fun x => !decide (x ∈ ks)) (l := pairsOf n) (fun x _ hx => by
    simp at hx ⊢
    exact fun z => hx ((h x).mpr (.inl z)))
  unfold meas
  rw [List.length_append, List.length_singleton]
  omega
theorem meas_mark {n : Nat} {ks ks' l : List Pair} {q : Pair} (hq : q ∈ pairsOf n) (h : ∀ x, x ∈ ks → x ∈ ks') (h1 : q ∉ ks) (h2 : q ∈ ks') : meas n ks' l < meas n ks l := by
  have e1 := cnt_le (f := fun x => !decide (x ∈ ks') && !decide (x ∈ l)) (g := fun x => !decide (x ∈ ks) && !decide (x ∈ l)) (l := pairsOf n) (fun x _ hx => by
    simp at hx ⊢
    exact ⟨fun z => hx.1 (h x z), hx.2⟩)
  have e2 := cnt_lt (f := fun x => !decide (x ∈ ks')) (g := fun x => !decide (x ∈ ks)) (l := pairsOf n) (fun x _ hx => by
    simp at hx ⊢
    exact fun z => hx (h x z)) ⟨q, hq, by simp [h2], by simp [h1]⟩
  unfold meas
  omega
end PD
namespace Sp
open PySem PySem.Spec PyProof.Rows L2 PD PDX
section
variable {P : Program} {w : World} {K : PySem.W.Frag} {mg : Str → Option Value} {base : Heap}
/-- next_need -/
def fNext : List D → (D → Prop) → Prop := fun ds Pd => ∃ (R : Ma.Routine) (p : Ma.Pair) (ks : List Ma.Pair), Ma.VR R ∧ p ∈ Ma.pairsOf R.length ∧ ds = [rD R, pkD p, endsD R ks] ∧ Pd = fun x => x = resD (Ma.nextNeed R (lookE R ks) p)
abbrev nNext : List Str := ["routine", "pair", "ends", "post", "sort", "marks", "back", "here", "turns", "at", "need", "more", "handed", "left"]
theorem scNext : FnScope nNext ["routine", "pair", "ends"] (defScope (topS 21)) := ⟨rfl, rfl, rfl, by decide +kernel, rfl, by decide +kernel, by decide +kernel⟩
theorem atI_nat' {α : Type} {xs : List α} {j : Nat} {v : α} (h : xs[j]? = some v) : L2.atI xs (j : Int) = some v := L2.atI_nat h
theorem cutFrom {α : Type} (xs : List α) (k : Nat) : PD.cutD xs (some (k : Int)) none = xs.drop k := by
  unfold PD.cutD
  rw [HT.sIx_nat, HT.sIx_none]
  rcases Nat.lt_or_ge k xs.length with h | h
  · rw [Nat.min_eq_left (Nat.le_of_lt h)]
    exact List.take_of_length_le (by rw [List.length_drop]; exact Nat.le_refl _)
  · rw [Nat.min_eq_right h, List.drop_eq_nil_of_le h, List.drop_eq_nil_of_le (Nat.le_refl _)]
    simp
theorem cutTo {α : Type} (xs : List α) (k : Nat) : PD.cutD xs none (some (k : Int)) = xs.take k := by
  unfold PD.cutD
  rw [HT.sIx_nat, HT.sIx_none]
  rw [List.drop_zero, Nat.sub_zero]
  rcases Nat.lt_or_ge k xs.length with h | h
  · rw [Nat.min_eq_left (Nat.le_of_lt h)]
  · rw [Nat.min_eq_right h, List.take_of_length_le (Nat.le_refl _), List.take_of_length_le h]
theorem ok_next (T : Tx K mg) (a : At K mg "next_need" 21 ["routine", "pair", "ends"]) : Cal P w K mg base "next_need" 1 ["routine", "pair", "ends"] fNext := by
  obtain ⟨tS, hS⟩ := T.SORTS
  obtain ⟨tR, hR⟩ := T.REST
  obtain ⟨tN, hN⟩ := T.NEVER
  obtain ⟨tG, hG⟩ := T.GREATEST
  obtain ⟨aF, hF, hFd⟩ := T.FOREVER
  refine calD a scNext (fun ds Pd h => by obtain ⟨R, p, ks, _, _, rfl, _⟩ := h; rfl) fun f cdv A outer s H E hr => ?_
  have hu := hu_of hr
  refine ⟨_, pss_cons (ps_asg (pv 1) (pg_tup rfl (pgs_cons (pg_name (i := 3) scNext.nd rfl (.inl rfl)) (pgs_cons (pg_name (i := 4) scNext.nd rfl (.inl rfl)) pgs_nil))))
    (pss_cons (ps_asg (pe_ix ix_tup (pe_ix ix_tup (pv 0) (pv 3) (fun _ _ => rfl)) (pv 4) (fun _ _ => rfl)) (pg_tup rfl (pgs_cons (pg_name (i := 5) scNext.nd rfl (.inl rfl)) (pgs_cons (pg_name (i := 6) scNext.nd rfl (.inl rfl)) (pgs_cons (pg_name (i := 7) scNext.nd rfl (.inl rfl)) pgs_nil)))))
    (pss_cons (ps_if (pt_cmpR op_eq (pv 7) (pe_glob (v := .int (-1)) (by rfl) hR ⟨_, rfl⟩) (nomark _)) (pss_one (ps_ret (pe_tup (pa_cons pe_non (pa_cons (pe_tup (pa_cons (pe_glob (v := .int (-1)) (by rfl) hR ⟨_, rfl⟩) (pa_cons pe_int (pa_cons (pv 5) (pa_cons (pv 6) pa_nil))))) pa_nil))))) pss_nil)
    (pss_cons (ps_set (i := 8) scNext.nd rfl (.inl rfl) pe_int)
    (pss_cons (ps_for PassesOwn.never rfl (pi_enumT (by rfl) T.enum (pa_cons (pe_op op_catA (pv 6) (pe_ifExp (pt_cmpR op_lt (pv 4) (pe_glob (v := .int 3) (by rfl) hS ⟨_, rfl⟩) (nomark _)) (pe_tup pa_nil) (pe_tup (pa_cons (pe_glob (v := .int 3) (by rfl) hS ⟨_, rfl⟩) pa_nil)))) pa_nil))
      (pg_tup rfl (pgs_cons (pg_name (i := 9) scNext.nd rfl (.inl rfl)) (pgs_cons (pg_name (i := 10) scNext.nd rfl (.inl rfl)) pgs_nil)))
      (pss_cons (ps_if (pt_cmp (pc_dnotin hu (pe_tup (pa_cons (pv 7) (pa_cons (pv 10) pa_nil))) (pv 2))) (pss_one (ps_ret (pe_tup (pa_cons (pe_tup (pa_cons (pv 7) (pa_cons (pv 10) pa_nil))) (pa_cons pe_non pa_nil))))) pss_nil)
      (pss_cons (ps_asg (pe_dget hu (pv 2) (pe_tup (pa_cons (pv 7) (pa_cons (pv 10) pa_nil))) (fun _ _ => rfl)) (pg_tup rfl (pgs_cons (pg_name (i := 7) scNext.nd rfl (.inl rfl)) (pgs_cons (pg_name (i := 11) scNext.nd rfl (.inl rfl)) (pgs_cons (pg_name (i := 12) scNext.nd rfl (.inl rfl)) (pgs_cons (pg_name (i := 13) scNext.nd rfl (.inl rfl)) pgs_nil))))))
      (pss_cons (ps_if (pt_cmpR op_eq (pv 7) (pe_glob (v := .str "never") (by rfl) hN ⟨_, rfl⟩) (nomark _)) (pss_one (ps_ret (pe_tup (pa_cons pe_non (pa_cons (pe_glob (v := .ref aF) (by rfl) hF rfl) pa_nil))))) pss_nil)
      (pss_cons (ps_par (i := 8) (j := 5) rfl scNext.nd rfl rfl (by decide) rfl rfl (pa_cons (pe_op op_add (pv 8) (pv 11)) (pa_cons (pe_slice sl_tupA (pe_op op_catA (pv 5) (pv 12)) po_none (po_some (pe_op op_add (pe_glob (v := .int 1000) (by rfl) hG ⟨_, rfl⟩) pe_int))) pa_nil)) (by rfl))
      (pss_one (ps_if (pt_cmpR op_eq (pv 7) (pe_glob (v := .int (-1)) (by rfl) hR ⟨_, rfl⟩) (nomark _)) (pss_one (ps_ret (pe_tup (pa_cons pe_non (pa_cons (pe_tup (pa_cons (pe_glob (v := .int (-1)) (by rfl) hR ⟨_, rfl⟩) (pa_cons (pv 8) (pa_cons (pv 5) (pa_cons (pe_op op_catA (pv 13) (pe_slice sl_tupA (pv 6) (po_some (pe_op op_add (pv 9) pe_int)) po_none)) pa_nil))))) pa_nil))))) pss_nil)))))))
    (pss_one (ps_ret (pe_tup (pa_cons pe_non (pa_cons (pe_tup (pa_cons (pv 7) (pa_cons (pv 8) (pa_cons (pv 5) (pa_cons (pe_tup pa_nil) pa_nil))))) pa_nil))))))))), fun M ds Pd h => ?_⟩
  obtain ⟨R, p, ks, v, hp, rfl, rfl⟩ := h
  obtain ⟨vm, hp1, hp2⟩ := Ma.getM_valid v hp
  generalize hmv : Ma.getM R p = mv at vm hp2
  obtain ⟨mk, bk, nx⟩ := mv
  have e1 : L2.atI (R.map pD) (p.1 : Int) = some (pD (R.getD p.1 [])) := atI_nat' (by rw [List.getElem?_map, hp1]; rfl)
  have e2 : L2.atI ((R.getD p.1 []).map mD) (p.2 : Int) = some (mD (mk, bk, nx)) := atI_nat' (by rw [List.getElem?_map, hp2]; rfl)
  have hb3 := vm.b1
  have hm2 := vm.m1
  simp only at hb3 hm2
  refine wd_seq (wd_asgG (ed_var (d := pkD p) rfl) (gd_tup (gs_cons gd_name (gs_cons gd_name gs_nil)) rfl) ?_)
  refine wd_seq (wd_asgG (ed_op (ed_op (ed_var (d := rD R) rfl) (ed_var rfl) (rv_ixT e1)) (ed_var rfl) (rv_ixT e2)) (gd_tup (gs_cons gd_name (gs_cons gd_name (gs_cons gd_name gs_nil))) rfl) ?_)
  cases nx with
  | none =>
    have hres : Ma.nextNeed R (lookE R ks) p = .told (some (none, 1, mk, bk)) := by
      unfold Ma.nextNeed
      rw [hmv]
    rw [hres]
    exact wd_seq (wd_if (b := true) (et_is (et_test (ed_op (ed_var (d := .int (-1)) rfl) ed_int rv_eqI)) rfl) (fun _ => wd_ret (ed_tup (ea_cons ed_non (ea_cons (ed_tup (ea_cons ed_int (ea_cons ed_int (ea_cons (ed_var rfl) (ea_cons (ed_var rfl) ea_nil)))) (Nat.le_of_ble_eq_true rfl)) ea_nil)) (Nat.le_of_ble_eq_true rfl)) rfl) (fun h => nomatch h))
  | some h0 =>
    have hres : Ma.nextNeed R (lookE R ks) p = Ma.loop (lookE R ks) bk 0 h0 1 mk (Ma.needsOf bk p.2) := by
      unfold Ma.nextNeed
      rw [hmv]
    refine wd_seq (wd_if (b := false) (et_is (et_test (ed_op (ed_var (d := .int (h0 : Int)) rfl) ed_int rv_eqI)) (decide_eq_false (by omega))) (fun h => nomatch h) fun _ => wd_next ?_)
    refine wd_seq (wd_asg ed_int ?_)
    have hnl : (Ma.needsOf bk p.2).length ≤ 4 := by
      unfold Ma.needsOf
      split
      · omega
      · rw [List.length_append, List.length_singleton]; omega
    refine wd_seq (wd_enumT (xs := (Ma.needsOf bk p.2).map nD) (ea_cons (ed_is (ed_op (ed_var (d := sD bk) rfl) (ed_if (d := .tup (if p.2 < 3 then [] else [nD 3])) (b := decide ((p.2 : Int) < 3)) (et_test (ed_op (ed_var rfl) ed_int rv_lt)) (fun h => ed_is (ed_tup ea_nil (Nat.le_of_ble_eq_true rfl)) ?q1) (fun h => ed_is (ed_tup (ea_cons ed_int ea_nil) (Nat.le_of_ble_eq_true rfl)) ?q2)) (rv_cat ?q3)) ?q4) ea_nil)
      (fun i τ => ∃ (h t : Nat) (m : List Nat) (x9 x10 x11 x12 x13 : Option D), τ = [some (rD R), some (pkD p), some (endsD R ks), some (.int (p.1 : Int)), some (.int (p.2 : Int)), some (sD m), some (sD bk), some (.int (h : Int)), some (.int (t : Int)), x9, x10, x11, x12, x13] ∧ m.length ≤ 1001 ∧
        Ma.loop (lookE R ks) bk i h t m ((Ma.needsOf bk p.2).drop i) = Ma.nextNeed R (lookE R ks) p) ?_ (fun i x τ hx hI => ?_) fun τ hI => ?_)
    case q1 =>
      have : p.2 < 3 := by have := of_decide_eq_true h; omega
      rw [if_pos this]
    case q2 =>
      have : ¬ p.2 < 3 := by have := of_decide_eq_false h; omega
      rw [if_neg this]; rfl
    case q3 =>
      rw [List.length_map]
      split <;> simp <;> omega
    case q4 =>
      unfold Ma.needsOf
      split
      · rw [List.append_nil]
      · rw [List.map_append]; rfl
    · exact ⟨h0, 1, mk, none, none, none, none, none, rfl, by omega, hres.symm⟩
    · obtain ⟨h, t, m, x9, x10, x11, x12, x13, rfl, hm, hl⟩ := hI
      rw [List.getElem?_map] at hx
      cases hn : (Ma.needsOf bk p.2)[i]? with
      | none => rw [hn] at hx; cases hx
      | some n =>
        rw [hn] at hx
        cases hx
        obtain ⟨hil, hiv⟩ := List.getElem?_eq_some_iff.mp hn
        rw [List.drop_eq_getElem_cons hil, hiv] at hl
        rw [Ma.loop] at hl
        have ekey : EvD K M (tTup (tCons (tVar 7) (tCons (tVar 10) tNil))) [some (rD R), some (pkD p), some (endsD R ks), some (.int (p.1 : Int)), some (.int (p.2 : Int)), some (sD m), some (sD bk), some (.int (h : Int)), some (.int (t : Int)), some (.int (i : Int)), some (nD n), x11, x12, x13] (keyD (kP (h, n))) :=
          ed_tup (ea_cons (ed_var rfl) (ea_cons (ed_var rfl) ea_nil)) (Nat.le_of_ble_eq_true rfl)
        by_cases hk : (h, n) ∈ ks
        · have hlook : lookE R ks (h, n) = some (Ma.sem R (h, n)) := by unfold lookE; rw [if_pos hk]
          rw [hlook] at hl
          refine wd_seq (wd_if (b := false) (et_is (et_B (ed_dninT (k := kP (h, n)) ekey (ed_var (d := endsD R ks) rfl))) (by rw [look_map, if_pos hk]; rfl)) (fun h => nomatch h) fun _ => wd_next ?_)
          have eget : EvD K M _ _ _ := ed_dgetT (k := kP (h, n)) (d := entD (Ma.sem R (h, n))) (ed_var (d := endsD R ks) (i := 2) (τ := [some (rD R), some (pkD p), some (endsD R ks), some (.int (p.1 : Int)), some (.int (p.2 : Int)), some (sD m), some (sD bk), some (.int (h : Int)), some (.int (t : Int)), some (.int (i : Int)), some (nD n), x11, x12, x13]) rfl) ekey (by rw [look_map, if_pos hk])
          cases hs : Ma.sem R (h, n) with
          | none =>
            rw [hs] at eget hl
            refine wd_seq (wd_asgG eget (gd_con (gs_cons gd_name (gs_cons gd_name (gs_cons gd_name (gs_cons gd_name gs_nil)))) rfl rfl) ?_)
            refine wd_seq (wd_if (b := true) (et_is (et_test (ed_op (ed_var (d := .str "never") rfl) ed_str rv_eqS)) (by decide)) (fun _ => wd_ret (ed_tup (ea_cons ed_non (ea_cons (ed_con hFd) ea_nil)) (Nat.le_of_ble_eq_true rfl)) ?_) (fun h => nomatch h))
            rw [← hl]; rfl
          | some e =>
            rw [hs] at eget hl
            have fine := Ma.sem_fine v hs
            obtain ⟨e1', more, handed, left⟩ := e
            have f1 := fine.left
            have f2 := fine.marks
            simp only at f1 f2
            refine wd_seq (wd_asgG eget (gd_tup (gs_cons gd_name (gs_cons gd_name (gs_cons gd_name (gs_cons gd_name gs_nil)))) rfl) ?_)
            cases e1' with
            | none =>
              refine wd_seq (wd_if (b := false) (et_test (ed_op (ed_var (d := .int (-1)) rfl) ed_str rv_eqIS)) (fun h => nomatch h) fun _ => wd_next ?_)
              refine wd_seq (wd_par (ea_cons (ed_op (ed_var (d := .int (t : Int)) rfl) (ed_var (d := .int (more : Int)) rfl) rv_add) (ea_cons (ed_slT (lo := none) (hi := some ((1000 : Int) + 1)) (ed_op (ed_var (d := sD m) rfl) (ed_var (d := sD handed) rfl) (rv_cat (by rw [List.length_map, List.length_map]; omega))) eo_none (eo_some (ed_op ed_int ed_int rv_add))) ea_nil)) ?_)
              refine wd_if (b := true) (et_is (et_test (ed_op (ed_var (d := .int (-1)) rfl) ed_int rv_eqI)) rfl) (fun _ => wd_ret (ed_tup (ea_cons ed_non (ea_cons (ed_tup (ea_cons ed_int (ea_cons (ed_var rfl) (ea_cons (ed_var rfl) (ea_cons (ed_op (ed_var (d := sD left) rfl) (ed_slT (ed_var (d := sD bk) rfl) (eo_some (ed_op (ed_var rfl) ed_int rv_add)) eo_none) (rv_cat ?_)) ea_nil)))) (Nat.le_of_ble_eq_true rfl)) ea_nil)) (Nat.le_of_ble_eq_true rfl)) ?_) (fun h => nomatch h)
              · have : (PD.cutD (bk.map nD) (some ((i : Int) + 1)) none).length ≤ (bk.map nD).length := by
                  unfold PD.cutD
                  rw [List.length_take, List.length_drop]
                  omega
                rw [List.length_map] at this ⊢
                omega
              · rw [← hl]
                have c1 : PD.cutD (m.map nD ++ handed.map nD) none (some ((1000 : Int) + 1)) = ((m ++ handed).take 1001).map nD := by
                  rw [show ((1000 : Int) + 1) = ((1001 : Nat) : Int) from rfl, cutTo, ← List.map_append, List.map_take]
                have c2 : PD.cutD (bk.map nD) (some ((i : Int) + 1)) none = (bk.drop (i + 1)).map nD := by
                  rw [show ((i : Int) + 1) = ((i + 1 : Nat) : Int) by omega, cutFrom, List.map_drop]
                show D.tup [.non, .tup [.int (-1), .int ((t : Int) + (more : Int)), .tup (PD.cutD (m.map nD ++ handed.map nD) none (some ((1000 : Int) + 1))), .tup (left.map nD ++ PD.cutD (bk.map nD) (some ((i : Int) + 1)) none)]] = D.tup [.non, .tup [.int (-1), .int ((t + more : Nat) : Int), .tup (((m ++ handed).take 1001).map nD), .tup ((left ++ bk.drop (i + 1)).map nD)]]
                rw [c1, c2, List.map_append, Int.natCast_add]
            | some hh =>
              refine wd_seq (wd_if (b := false) (et_test (ed_op (ed_var (d := .int (hh : Int)) rfl) ed_str rv_eqIS)) (fun h => nomatch h) fun _ => wd_next ?_)
              refine wd_seq (wd_par (ea_cons (ed_op (ed_var (d := .int (t : Int)) rfl) (ed_var (d := .int (more : Int)) rfl) rv_add) (ea_cons (ed_slT (lo := none) (hi := some ((1000 : Int) + 1)) (ed_op (ed_var (d := sD m) rfl) (ed_var (d := sD handed) rfl) (rv_cat (by rw [List.length_map, List.length_map]; omega))) eo_none (eo_some (ed_op ed_int ed_int rv_add))) ea_nil)) ?_)
              refine wd_if (b := false) (et_is (et_test (ed_op (ed_var (d := .int (hh : Int)) rfl) ed_int rv_eqI)) (decide_eq_false (by omega))) (fun h => nomatch h) (fun _ => wd_next ?_)
              refine ⟨hh, t + more, (m ++ handed).take 1001, some (.int (i : Int)), some (nD n), some (.int (more : Int)), some (sD handed), some (sD left), ?_, List.length_take_le _ _, hl⟩
              have c1 : PD.cutD (m.map nD ++ handed.map nD) none (some ((1000 : Int) + 1)) = ((m ++ handed).take 1001).map nD := by
                rw [show ((1000 : Int) + 1) = ((1001 : Nat) : Int) from rfl, cutTo, ← List.map_append, List.map_take]
              show [some (rD R), some (pkD p), some (endsD R ks), some (.int (p.1 : Int)), some (.int (p.2 : Int)), some (.tup (PD.cutD (m.map nD ++ handed.map nD) none (some ((1000 : Int) + 1)))), some (sD bk), some (.int (hh : Int)), some (.int ((t : Int) + (more : Int))), some (.int (i : Int)), some (nD n), some (.int (more : Int)), some (sD handed), some (sD left)] = _
              rw [c1, ← Int.natCast_add]
              rfl
        · have hlook : lookE R ks (h, n) = none := by unfold lookE; rw [if_neg hk]
          rw [hlook] at hl
          refine wd_seq (wd_if (b := true) (et_is (et_B (ed_dninT (k := kP (h, n)) ekey (ed_var (d := endsD R ks) rfl))) (by rw [look_map, if_neg hk]; rfl)) (fun _ => wd_ret (ed_tup (ea_cons ekey (ea_cons ed_non ea_nil)) (Nat.le_of_ble_eq_true rfl)) ?_) (fun h => nomatch h))
          rw [← hl]; rfl
    · obtain ⟨h, t, m, x9, x10, x11, x12, x13, rfl, hm, hl⟩ := hI
      rw [List.length_map, List.drop_length] at hl
      refine wd_ret (ed_tup (ea_cons ed_non (ea_cons (ed_tup (ea_cons (ed_var rfl) (ea_cons (ed_var rfl) (ea_cons (ed_var rfl) (ea_cons (ed_tup ea_nil (Nat.le_of_ble_eq_true rfl)) ea_nil)))) (Nat.le_of_ble_eq_true rfl)) ea_nil)) (Nat.le_of_ble_eq_true rfl)) ?_
      rw [← hl]; rfl
end
end Sp
namespace Sp
open PySem PySem.Spec PyProof.Rows L2 PD PDX
section
variable {P : Program} {w : World} {K : PySem.W.Frag} {mg : Str → Option Value} {base : Heap}
theorem cutInit {α : Type} (xs : List α) (x : α) : PD.cutD (xs ++ [x]) none (some (-1)) = xs := by
  unfold PD.cutD
  rw [HT.sIx_none]
  have : HT.sIx (xs ++ [x]).length (xs ++ [x]).length (some (-1)) = xs.length := by
    show (if (-1 : Int) < 0 then ((-1 : Int) + ((xs ++ [x]).length : Int)).toNat else min (-1 : Int).toNat (xs ++ [x]).length) = xs.length
    rw [if_pos (by decide), List.length_append, List.length_singleton]
    omega
  rw [this, List.drop_zero, Nat.sub_zero]
  simp
theorem mapf' (l : List D) (h : D → D) : (l.filter fun _ => true).map h = l.map h := by rw [filter_yes]
/-- with_ends -/
def fWith : List D → (D → Prop) → Prop := fun ds Pd => ∃ (R : Ma.Routine) (p : Ma.Pair) (ks : List Ma.Pair), Ma.VR R ∧ p ∈ Ma.pairsOf R.length ∧ Gk R ks ∧ ds = [rD R, pkD p, endsD R ks] ∧ Pd = fun x => ∃ ks', x = endsD R ks' ∧ Gk R ks' ∧ p ∈ ks' ∧ ∀ q ∈ ks, q ∈ ks'
abbrev nWith : List Str := ["routine", "pair", "ends", "line", "here", "need", "told", "one"]
theorem scWith : FnScope nWith ["routine", "pair", "ends"] (defScope (topS 22)) := ⟨rfl, rfl, rfl, by decide +kernel, rfl, by decide +kernel, by decide +kernel⟩
theorem ok_with (T : Tx K mg) (a : At K mg "with_ends" 22 ["routine", "pair", "ends"]) (C1 : Cal P w K mg base "next_need" 1 ["routine", "pair", "ends"] fNext) : Cal P w K mg base "with_ends" 2 ["routine", "pair", "ends"] fWith := by
  obtain ⟨f1, fd1, G1, m1, k1, b1⟩ := C1
  obtain ⟨aF, hF, hFd⟩ := T.FOREVER
  refine calD a scWith (fun ds Pd h => by obtain ⟨R, p, ks, _, _, _, rfl, _⟩ := h; rfl) fun f cdv A outer s H E hr => ?_
  have hu := hu_of hr
  have hu65 : (A.deeper (envOfC "with_ends" (defScope (topS 22)) s.heap.objs.size f cdv)).units + 65 < cLine := by have := hr.un; omega
  have hu2 : (A.deeper (envOfC "with_ends" (defScope (topS 22)) s.heap.objs.size f cdv)).units + 2 < cLine := by have := hr.un; omega
  refine ⟨_, pss_cons (ps_set (i := 3) scWith.nd rfl (.inl rfl) (pe_lst (pa_cons (pv 1) pa_nil)))
    (pss_cons (ps_while PassesOwn.never (pt_cmpR (op_neD hr.units) (pv 3) (pe_lst pa_nil) (nomark _))
      (pss_cons (ps_set (i := 4) scWith.nd rfl (.inl rfl) (pe_ix ix_list (pv 3) (pe_un un_neg pe_int) (fun _ _ => rfl)))
      (pss_cons (ps_asg (pe_ifExp (pt_cmp (pc_din hu (pv 4) (pv 2))) (pe_tup (pa_cons pe_non (pa_cons (pe_dget hu (pv 2) (pv 4) (fun _ _ => rfl)) pa_nil))) (pe_call G1 hr (by rfl) m1 k1 b1 .nil pass0 (pa_cons (pv 0) (pa_cons (pv 4) (pa_cons (pv 2) pa_nil)))))
        (pg_tup rfl (pgs_cons (pg_name (i := 5) scWith.nd rfl (.inl rfl)) (pgs_cons (pg_name (i := 6) scWith.nd rfl (.inl rfl)) pgs_nil))))
      (pss_one (ps_if (pt_cmpR op_isN (pv 5) pe_non (nomark _))
        (pss_one (ps_par (i := 3) (j := 2) rfl scWith.nd rfl rfl (by decide) rfl rfl (pa_cons (pe_slice sl_list (pv 3) po_none (po_some (pe_un un_neg pe_int))) (pa_cons (pe_putT hu (pv 2) (pv 4) (pv 6)) pa_nil)) (by rfl)))
        (pss_one (ps_if (pt_cmpR (op_inD hu65) (pv 5) (pv 3) (by rfl))
          (pss_one (ps_set (i := 2) scWith.nd rfl (.inl rfl) (pe_twoT hu (pv 2) (pe_callTy (call_dictT rfl hu2) (by rfl) T.dict (by decide +kernel) (pa_cons (pe_lc (own := [("one", 7)]) (g := gName 7) rfl scWith.nd
            (pi_list (pe_slice sl_list (pv 3) (po_some (pe_bm PySem.F.plainAttrs_list PySem.F.slot_list_index PySem.F.type_list_index (mt_indexD hu65) (pv 3) (pa_cons (pv 5) pa_nil))) po_none))
            (blkOk_by (own := [("one", 7)]) (N := nWith) (sc := defScope (topS 22)) (by decide +kernel))
            (fun _ _ _ _ _ => pg_name (i := 7) scWith.nd rfl (Or.inl rfl)) (fun _ _ _ _ _ => pts_nil)
            (fun _ _ _ _ _ => pe_tup (pa_cons (pv 7) (pa_cons (pe_glob (v := .ref aF) (by rfl) hF rfl) pa_nil)))) pa_nil)))))
          (pss_one (ps_set (i := 3) scWith.nd rfl (.inl rfl) (pe_op op_cat (pv 3) (pe_lst (pa_cons (pv 5) pa_nil)))))))))))) 
    (pss_one (ps_ret (pv 2)))), fun M ds Pd h => ?_⟩
  obtain ⟨R, p, ks, v, hp, g, rfl, rfl⟩ := h
  refine wd_seq (wd_asg (ed_lst (ea_cons (ed_var (d := pkD p) rfl) ea_nil) (Nat.le_of_ble_eq_true rfl)) ?_)
  refine wd_seq (wd_while (fun m τ => ∃ (l ks' : List Ma.Pair) (x4 x5 x6 x7 : Option D), τ = [some (rD R), some (pkD p), some (endsD R ks'), some (linD l), x4, x5, x6, x7] ∧ Gk R ks' ∧ (∀ q ∈ l, q ∈ Ma.pairsOf R.length) ∧ l.Nodup ∧ Ma.Chain R l ∧ (∀ q ∈ ks, q ∈ ks') ∧ (p ∈ ks' ∨ p ∈ l) ∧ meas R.length ks' l = m)
    (meas R.length ks [p]) ⟨[p], ks, none, none, none, none, rfl, g, fun q hq => by rw [List.mem_singleton.mp hq]; exact hp, by simp, True.intro, fun q h => h, .inr (List.mem_singleton.mpr rfl), rfl⟩ fun m τ hI => ?_)
  obtain ⟨l, ks', x4, x5, x6, x7, rfl, g', hl, hnd, hc, hks, hpl, rfl⟩ := hI
  refine ⟨!decide (l = []), et_is (et_test (ed_op (ed_var (d := linD l) rfl) (ed_lst ea_nil (Nat.le_of_ble_eq_true rfl)) (rv_neD (by unfold linD noD; exact lin_no l) rfl (by unfold linD toP; exact lin_shaped l) (by decide)))) (by rw [lin_nil]), fun hb => ?_, fun hb => ?_⟩
  · -- a turn
    have hne : l ≠ [] := by
      intro z
      rw [z] at hb
      cases hb
    obtain ⟨l0, here, rfl⟩ : ∃ l0 here, l = l0 ++ [here] := ⟨l.dropLast, l.getLast hne, (List.dropLast_concat_getLast hne).symm⟩
    have hhere : here ∈ Ma.pairsOf R.length := hl here (List.mem_append.mpr (.inr (List.mem_singleton.mpr rfl)))
    have hlen : (l0 ++ [here]).length ≤ 24 := by
      have := Ma.len_le_of_sub hnd hl
      rw [Ma.pairs_len] at this
      have := v.hi
      omega
    have hlm : ((l0 ++ [here]).map pkD) = l0.map pkD ++ [pkD here] := by rw [List.map_append]; rfl
    have hat : L2.atI ((l0 ++ [here]).map pkD) (-1) = some (pkD here) := by rw [hlm]; exact atI_last _ _
    refine wd_seq (wd_asg (ed_op (ed_var (d := linD (l0 ++ [here])) rfl) (ed_un ed_int ru_neg) (rv_ixL hat)) ?_)
    have hres : ∃ rw : Ma.Res, (here ∈ ks' → rw = .told (Ma.sem R here)) ∧ (here ∉ ks' → rw = Ma.nextNeed R (lookE R ks') here) := by
      by_cases h : here ∈ ks'
      · exact ⟨_, fun _ => rfl, fun z => absurd h z⟩
      · exact ⟨_, fun z => absurd z h, fun _ => rfl⟩
    obtain ⟨rw0, hr1, hr2⟩ := hres
    have hev : EvD K M _ _ (resD rw0) := ed_if (ta := tTup (tCons (tC .non) (tCons (tDGet (tVar 2) (tVar 4)) tNil))) (tb := tCall (spD K fNext) [] E0 (tCons (tVar 0) (tCons (tVar 4) (tCons (tVar 2) tNil)))) (tt := tB (tDIn (tVar 4) (tVar 2))) (b := decide (here ∈ ks'))
      (τ := [some (rD R), some (pkD p), some (endsD R ks'), some (linD (l0 ++ [here])), some (pkD here), x5, x6, x7])
      (et_is (et_B (ed_dinT (k := kP here) (ed_var (d := pkD here) rfl) (ed_var (d := endsD R ks') rfl))) (by rw [look_map]; by_cases h : here ∈ ks' <;> simp [h]))
      (fun h => by
        have h' := of_decide_eq_true h
        rw [hr1 h']
        exact ed_tup (ea_cons ed_non (ea_cons (ed_dgetT (k := kP here) (ed_var (d := endsD R ks') rfl) (ed_var (d := pkD here) rfl) (by rw [look_map, if_pos h'])) ea_nil)) (Nat.le_of_ble_eq_true rfl))
      (fun h => by
        have h' := of_decide_eq_false h
        rw [hr2 h']
        exact ed_callD (ea_cons (ed_var rfl) (ea_cons (ed_var (d := pkD here) rfl) (ea_cons (ed_var rfl) ea_nil))) ⟨R, here, ks', v, hhere, rfl, rfl⟩)
    have htold : ∀ o, rw0 = .told o → o = Ma.sem R here := fun o ho => by
      by_cases h : here ∈ ks'
      · rw [hr1 h] at ho; injection ho with ho; exact ho.symm
      · rw [hr2 h] at ho; exact Ma.next_told v (agr_lookE R ks') hhere ho
    have hneed : ∀ q, rw0 = .need q → here ∉ ks' ∧ q ∉ ks' ∧ q ∈ Ma.pairsOf R.length ∧ Ma.Needs R here q := fun q hq => by
      by_cases h : here ∈ ks'
      · rw [hr1 h] at hq; cases hq
      · rw [hr2 h] at hq
        obtain ⟨n1, n2, n3⟩ := Ma.next_need v (agr_lookE R ks') hhere hq
        refine ⟨h, fun z => ?_, n2, n3⟩
        unfold lookE at n1
        rw [if_pos z] at n1
        cases n1
    cases rw0 with
    | told o =>
      have ho := htold o rfl
      subst ho
      refine wd_seq (wd_asgG hev (gd_tup (gs_cons gd_name (gs_cons gd_name gs_nil)) rfl) ?_)
      refine wd_if (b := true) (et_is (et_test (ed_op (ed_var (d := .non) rfl) ed_non rv_isN)) rfl) (fun _ => ?_) (fun h => nomatch h)
      refine wd_par (ea_cons (ed_slL (ed_var (d := linD (l0 ++ [here])) rfl) eo_none (eo_some (ed_un ed_int ru_neg))) (ea_cons (ed_putT (k := kP here) (fun M => ed_var (d := endsD R ks') rfl) (fun M => ed_var (d := pkD here) rfl) (fun M => ed_var (d := entD (Ma.sem R here)) rfl) (apart_of v g') (by rw [List.length_map]; have := g'.len v; omega) (put_at (fun q => entD (Ma.sem R q)) ks' here)) ea_nil)) ?_
      refine ⟨_, meas_pop (fun x => mem_addOne (ks := ks') (q := here) (x := x)), l0, addOne ks' here, some (pkD here), some .non, some (entD (Ma.sem R here)), x7, ?_, g'.one hhere, fun q hq => hl q (List.mem_append.mpr (.inl hq)), (List.nodup_append.mp hnd).1, ?_, fun q hq => mem_addOne.mpr (.inl (hks q hq)), ?_, rfl⟩
      · obtain ⟨p1, p2⟩ := put_one (fun q => entD (Ma.sem R q)) ks' here
        have c : PD.cutD ((l0 ++ [here]).map pkD) none (some (-1)) = l0.map pkD := by rw [hlm, cutInit]
        show [some (rD R), some (pkD p), some (D.dt (putKs (ks'.map kP) (kP here)) (putDs (ks'.map kP) (ks'.map fun q => entD (Ma.sem R q)) (kP here) (entD (Ma.sem R here)))), some (D.lst (PD.cutD ((l0 ++ [here]).map pkD) none (some (-1)))), some (pkD here), some .non, some (entD (Ma.sem R here)), x7] = _
        rw [p1, p2, c]
        rfl
      · have := Ma.Chain.take l0.length hc
        rw [List.take_left' rfl] at this
        exact this
      · rcases hpl with h | h
        · exact .inl (mem_addOne.mpr (.inl h))
        · rcases List.mem_append.mp h with h | h
          · exact .inr h
          · exact .inl (mem_addOne.mpr (.inr (List.mem_singleton.mp h)))
    | need q =>
      obtain ⟨nh, nq, hq, hn⟩ := hneed q rfl
      refine wd_seq (wd_asgG hev (gd_tup (gs_cons gd_name (gs_cons gd_name gs_nil)) rfl) ?_)
      refine wd_if (b := false) (et_is (et_test (ed_op (ed_var (d := pkD q) rfl) ed_non rv_isN)) rfl) (fun h => nomatch h) (fun _ => ?_)
      refine wd_if (b := decide (q ∈ l0 ++ [here])) (et_is (et_test (ed_op (ed_var (d := pkD q) rfl) (ed_var (d := linD (l0 ++ [here])) rfl) (rv_inD (pk_no q) (lin_no _) (pk_shaped q) (lin_shaped _)))) (by rw [lin_any])) (fun h => ?_) (fun h => ?_)
      · have hin := of_decide_eq_true h
        obtain ⟨j, hj, hfirst⟩ := first_at hin
        obtain ⟨hjl, hjv⟩ := List.getElem?_eq_some_iff.mp hj
        have hd : (l0 ++ [here]).drop j = q :: (l0 ++ [here]).drop (j + 1) := by rw [List.drop_eq_getElem_cons hjl, hjv]
        have hlast : ((l0 ++ [here]).drop j).getLast? = some here := by
          rw [List.getLast?_drop, if_neg (by omega)]
          simp
        have hnone : ∀ x ∈ (l0 ++ [here]).drop j, Ma.sem R x = none := by
          have hc' := Ma.Chain.drop j hc
          rw [hd] at hc' hlast ⊢
          exact Ma.ring hc' hlast hn
        have hsub : ∀ x ∈ (l0 ++ [here]).drop j, x ∈ l0 ++ [here] := fun x hx => List.mem_of_mem_drop hx
        have hhd : here ∈ (l0 ++ [here]).drop j := List.mem_of_getLast? hlast
        generalize hdl : (l0 ++ [here]).drop j = dl at hnone hsub hhd
        have gdl : Gk R (addAll [] dl) := Gk.all ⟨List.nodup_nil, fun q h => by cases h⟩ fun x hx => hl x (hsub x hx)
        have hidx : ∀ m (z' : PyData), m < j → (toPs ((l0 ++ [here]).map pkD))[m]? = some z' → PyData.eqv z' (toP (pkD q)) = false := fun m z' hm hz => by
          rw [lin_toPs, List.getElem?_map] at hz
          cases hy : (l0 ++ [here])[m]? with
          | none => rw [hy] at hz; cases hz
          | some y =>
            rw [hy] at hz
            have hz' : pkP y = z' := Option.some.inj hz
            rw [← hz', toP_pk, eqv_pk]
            exact decide_eq_false fun e => hfirst m hm (by rw [hy, e])
        have hcut : PD.cutD ((l0 ++ [here]).map pkD) (some (j : Int)) none = dl.map pkD := by rw [cutFrom, ← List.map_drop, hdl]
        have hzip : ((dl.map kP).zip (dl.map fun q => entD (Ma.sem R q))).map (fun kd => D.tup [keyD kd.1, kd.2]) = (dl.map pkD).map fun x => D.tup [x, .con forP] := by
          rw [List.zip_map', List.map_map, List.map_map]
          refine List.map_congr_left fun x hx => ?_
          show D.tup [keyD (kP x), entD (Ma.sem R x)] = D.tup [pkD x, .con forP]
          rw [hnone x hx]
          rfl
        obtain ⟨pa1, pa2⟩ := put_all (fun q => entD (Ma.sem R q)) dl []
        obtain ⟨pb1, pb2⟩ := put_all (fun q => entD (Ma.sem R q)) (addAll [] dl) ks'
        have hdlen := gdl.len v
        have hkl := g'.len v
        refine wd_asg (ed_twoT (ks := ks'.map kP) (ds := ks'.map fun q => entD (Ma.sem R q)) (ks' := (addAll [] dl).map kP) (ds' := (addAll [] dl).map fun q => entD (Ma.sem R q)) (fun M => ed_var (d := endsD R ks') rfl)
          (fun M => ed_is (ed_cb (ea_cons (ed_is (ed_lcL (fun _ => true) (fun x => .tup [x, .con forP]) (ed_slL (ed_var (d := linD (l0 ++ [here])) rfl) (eo_some (ed_index (j := j) (z := pkD q) (ed_var (d := linD (l0 ++ [here])) rfl) (ed_var (d := pkD q) rfl) (lin_no _) (pk_no q) (lin_shaped _) (pk_shaped q) ?h1 ?h2 hidx)) eo_none) ?h3 (fun x _ M => et_yes) (fun x hx _ M => ed_tup (ea_cons (ed_var rfl) (ea_cons (ed_con hFd) ea_nil)) (Nat.le_of_ble_eq_true rfl))) ?h4) ea_nil) (rc_dictT (ks := dl.map kP) (ds := dl.map fun q => entD (Ma.sem R q)) ?h5 ?h6)) ?h7) (apart_of v g') (apart_of v gdl) ?h8 pb2) ?_
        case h1 => rw [lin_toPs, List.getElem?_map, hj, toP_pk]; rfl
        case h2 => rw [toP_pk, eqv_pk]; exact decide_eq_true rfl
        case h3 => rw [hcut, List.length_map, ← hdl, List.length_drop]; omega
        case h4 => rw [hcut, mapf', hzip]
        case h5 => rw [List.length_map, List.length_map]
        case h6 => exact pa2
        case h7 =>
          have pa1' : mergeKD [] [] (dl.map kP) (dl.map fun q => entD (Ma.sem R q)) = ((addAll [] dl).map kP, (addAll [] dl).map fun q => entD (Ma.sem R q)) := pa1
          rw [pa1']
        case h8 => rw [List.length_map, List.length_map]; omega
        refine ⟨_, meas_mark (ks' := addAll ks' (addAll [] dl)) hhere (fun x hx => mem_addAll.mpr (.inl hx)) nh (mem_addAll.mpr (.inr (mem_addAll.mpr (.inr hhd)))), l0 ++ [here], addAll ks' (addAll [] dl), some (pkD here), some (pkD q), some .non, x7, ?_, g'.all gdl.sub, hl, hnd, hc, fun x hx => mem_addAll.mpr (.inl (hks x hx)), hpl.imp (fun h => mem_addAll.mpr (.inl h)) id, rfl⟩
        rw [pb1]
        rfl
      · have hnin := of_decide_eq_false h
        refine wd_asg (ed_op (ed_var (d := linD (l0 ++ [here])) rfl) (ed_lst (ea_cons (ed_var (d := pkD q) rfl) ea_nil) (Nat.le_of_ble_eq_true rfl)) (rv_catL (by rw [List.length_map]; show (l0 ++ [here]).length + 1 ≤ 100000; omega))) ?_
        refine ⟨_, meas_push hq nq hnin, (l0 ++ [here]) ++ [q], ks', some (pkD here), some (pkD q), some .non, x7, ?_, g', ?_, ?_, ?_, hks, ?_, rfl⟩
        · show [some (rD R), some (pkD p), some (endsD R ks'), some (D.lst ((l0 ++ [here]).map pkD ++ [pkD q])), some (pkD here), some (pkD q), some .non, x7] = _
          unfold linD
          rw [List.map_append (l₁ := l0 ++ [here])]
          rfl
        · intro x hx
          rcases List.mem_append.mp hx with h | h
          · exact hl x h
          · rw [List.mem_singleton.mp h]; exact hq
        · rw [List.nodup_append]
          refine ⟨hnd, by simp, ?_⟩
          intro a ha b hb
          rw [List.mem_singleton.mp hb]
          exact fun e => hnin (e ▸ ha)
        · exact Ma.Chain.snoc hc fun x hx => by
            have : x = here := by simpa using hx.symm
            rw [this]; exact hn
        · exact hpl.imp id fun h => List.mem_append.mpr (.inl h)
  · have hle : l = [] := by
      by_cases e : l = []
      · exact e
      · rw [decide_eq_false e] at hb; cases hb
    subst hle
    exact wd_ret (ed_var rfl) ⟨ks', rfl, g', hpl.elim (fun h => h) (fun h => by cases h), hks⟩
end
end Sp
namespace Sp
open PySem PySem.Spec PyProof.Rows L2 PD PDX
section
variable {P : Program} {w : World} {K : PySem.W.Frag} {mg : Str → Option Value} {base : Heap}
/-- what a run tells -/
def runD : Option (List Nat × List Nat × Nat) → D
  | none => .tup [.str "never"]
  | some r => .tup [.str "rest", sD r.1, sD r.2.1, .int (r.2.2 : Int)]
def fToldRun : List D → (D → Prop) → Prop := fun ds Pd => ∃ (R : Ma.Routine) (l : List Nat), Ma.VR R ∧ l.length ≤ 60 ∧ (∀ x ∈ l, x < 3) ∧ ds = [rD R, sD l] ∧ Pd = fun x => x = runD (Ma.toldOn (Ma.sem R) l)
abbrev nToldRun : List Str := ["routine", "stack", "post", "marks", "turns", "ends", "at", "sort", "more", "handed", "left"]
theorem scToldRun : FnScope nToldRun ["routine", "stack"] (defScope (topS 23)) := ⟨rfl, rfl, rfl, by decide +kernel, rfl, by decide +kernel, by decide +kernel⟩
theorem cut1001 (m h : List Nat) : PD.cutD (m.map nD ++ h.map nD) none (some ((1000 : Int) + 1)) = ((m ++ h).take 1001).map nD := by
  rw [show ((1000 : Int) + 1) = ((1001 : Nat) : Int) from rfl, cutTo, ← List.map_append, List.map_take]
theorem cutAt (l : List Nat) (i : Nat) : PD.cutD (l.map nD) (some ((i : Int) + 1)) none = (l.drop (i + 1)).map nD := by
  rw [show ((i : Int) + 1) = ((i + 1 : Nat) : Int) by omega, cutFrom, List.map_drop]
theorem ok_toldRun (T : Tx K mg) (a : At K mg "told_run" 23 ["routine", "stack"]) (C1 : Cal P w K mg base "with_ends" 2 ["routine", "pair", "ends"] fWith) : Cal P w K mg base "told_run" 3 ["routine", "stack"] fToldRun := by
  obtain ⟨f1, fd1, G1, m1, k1, b1⟩ := C1
  obtain ⟨tS, hS⟩ := T.SORTS
  obtain ⟨tR, hR⟩ := T.REST
  obtain ⟨tN, hN⟩ := T.NEVER
  obtain ⟨tG, hG⟩ := T.GREATEST
  refine calD a scToldRun (fun ds Pd h => by obtain ⟨R, l, _, _, _, rfl, _⟩ := h; rfl) fun f cdv A outer s H E hr => ?_
  have hu := hu_of hr
  refine ⟨_, pss_cons (ps_asg (pe_tup (pa_cons pe_int (pa_cons (pe_tup pa_nil) (pa_cons pe_int (pa_cons pe_dnewT pa_nil))))) (pg_tup rfl (pgs_cons (pg_name (i := 2) scToldRun.nd rfl (.inl rfl)) (pgs_cons (pg_name (i := 3) scToldRun.nd rfl (.inl rfl)) (pgs_cons (pg_name (i := 4) scToldRun.nd rfl (.inl rfl)) (pgs_cons (pg_name (i := 5) scToldRun.nd rfl (.inl rfl)) pgs_nil))))))
    (pss_cons (ps_for PassesOwn.never rfl (pi_enumT (by rfl) T.enum (pa_cons (pe_op op_catA (pv 1) (pe_tup (pa_cons (pe_glob (v := .int 3) (by rfl) hS ⟨_, rfl⟩) pa_nil))) pa_nil))
      (pg_tup rfl (pgs_cons (pg_name (i := 6) scToldRun.nd rfl (.inl rfl)) (pgs_cons (pg_name (i := 7) scToldRun.nd rfl (.inl rfl)) pgs_nil)))
      (pss_cons (ps_set (i := 5) scToldRun.nd rfl (.inl rfl) (pe_call G1 hr (by rfl) m1 k1 b1 .nil pass0 (pa_cons (pv 0) (pa_cons (pe_tup (pa_cons (pv 2) (pa_cons (pv 7) pa_nil))) (pa_cons (pv 5) pa_nil)))))
      (pss_cons (ps_asg (pe_dget hu (pv 5) (pe_tup (pa_cons (pv 2) (pa_cons (pv 7) pa_nil))) (fun _ _ => rfl)) (pg_tup rfl (pgs_cons (pg_name (i := 2) scToldRun.nd rfl (.inl rfl)) (pgs_cons (pg_name (i := 8) scToldRun.nd rfl (.inl rfl)) (pgs_cons (pg_name (i := 9) scToldRun.nd rfl (.inl rfl)) (pgs_cons (pg_name (i := 10) scToldRun.nd rfl (.inl rfl)) pgs_nil))))))
      (pss_cons (ps_if (pt_cmpR op_eq (pv 2) (pe_glob (v := .str "never") (by rfl) hN ⟨_, rfl⟩) (nomark _)) (pss_one (ps_ret (pe_tup (pa_cons pe_str pa_nil)))) pss_nil)
      (pss_cons (ps_par (i := 3) (j := 4) rfl scToldRun.nd rfl rfl (by decide) rfl rfl (pa_cons (pe_slice sl_tupA (pe_op op_catA (pv 3) (pv 9)) po_none (po_some (pe_op op_add (pe_glob (v := .int 1000) (by rfl) hG ⟨_, rfl⟩) pe_int))) (pa_cons (pe_op op_add (pv 4) (pv 8)) pa_nil)) (by rfl))
      (pss_one (ps_if (pt_cmpR op_eq (pv 2) (pe_glob (v := .int (-1)) (by rfl) hR ⟨_, rfl⟩) (nomark _)) (pss_one (ps_ret (pe_tup (pa_cons pe_str (pa_cons (pv 3) (pa_cons (pe_op op_catA (pv 10) (pe_slice sl_tupA (pv 1) (po_some (pe_op op_add (pv 6) pe_int)) po_none)) (pa_cons (pv 4) pa_nil))))))) pss_nil)))))))
    (pss_one (ps_ret (pe_tup (pa_cons pe_str pa_nil))))), fun M ds Pd h => ?_⟩
  obtain ⟨R, l, v, hl60, hl3, rfl, rfl⟩ := h
  refine wd_seq (wd_asgG (ed_tup (ea_cons ed_int (ea_cons (ed_tup ea_nil (Nat.le_of_ble_eq_true rfl)) (ea_cons ed_int (ea_cons ed_dnewT ea_nil)))) (Nat.le_of_ble_eq_true rfl)) (gd_tup (gs_cons gd_name (gs_cons gd_name (gs_cons gd_name (gs_cons gd_name gs_nil)))) rfl) ?_)
  refine wd_seq (wd_enumT (xs := (l ++ [3]).map nD) (ea_cons (ed_is (ed_op (ed_var (d := sD l) rfl) (ed_tup (ea_cons ed_int ea_nil) (Nat.le_of_ble_eq_true rfl)) (rv_cat ?q1)) ?q2) ea_nil)
    (fun i τ => ∃ (h t : Nat) (m : List Nat) (ks : List Ma.Pair) (x6 x7 x8 x9 x10 : Option D), τ = [some (rD R), some (sD l), some (.int (h : Int)), some (sD m), some (.int (t : Int)), some (endsD R ks), x6, x7, x8, x9, x10] ∧ h < R.length ∧ m.length ≤ 1001 ∧ Gk R ks ∧
      Ma.run (Ma.sem R) l i h t m ((l ++ [3]).drop i) = Ma.toldOn (Ma.sem R) l) ?_ (fun i x τ hx hI => ?_) fun τ hI => ?_)
  case q1 => rw [List.length_map]; show l.length + 1 ≤ 100000; omega
  case q2 => rw [List.map_append]; rfl
  · exact ⟨0, 0, [], [], none, none, none, none, none, rfl, v.lo, by simp, ⟨List.nodup_nil, fun q h => by cases h⟩, rfl⟩
  · obtain ⟨h, t, m, ks, x6, x7, x8, x9, x10, rfl, hh, hm, g, hrun⟩ := hI
    rw [List.getElem?_map] at hx
    cases hn : (l ++ [3])[i]? with
    | none => rw [hn] at hx; cases hx
    | some n =>
      rw [hn] at hx
      cases hx
      obtain ⟨hil, hiv⟩ := List.getElem?_eq_some_iff.mp hn
      have hn4 : n < 4 := by
        rcases List.mem_append.mp (List.mem_of_getElem? hn) with c | c
        · have := hl3 n c; omega
        · rw [List.mem_singleton.mp c]; decide
      have hp : (h, n) ∈ Ma.pairsOf R.length := Ma.mem_pairs.mpr ⟨hh, hn4⟩
      rw [List.drop_eq_getElem_cons hil, hiv, Ma.run] at hrun
      refine wd_seq (wd_asgP (ed_call (ea_cons (ed_var (d := rD R) rfl) (ea_cons (ed_tup (ea_cons (ed_var (d := .int (h : Int)) rfl) (ea_cons (ed_var (d := nD n) rfl) ea_nil)) (Nat.le_of_ble_eq_true rfl)) (ea_cons (ed_var (d := endsD R ks) rfl) ea_nil))) ⟨R, (h, n), ks, v, hp, g, rfl, rfl⟩) fun d hd => ?_)
      obtain ⟨ks', rfl, g', hin, _⟩ := hd
      have eget : EvD K M _ _ _ := ed_dgetT (k := kP (h, n)) (d := entD (Ma.sem R (h, n))) (ed_var (d := endsD R ks') (i := 5) (τ := [some (rD R), some (sD l), some (.int (h : Int)), some (sD m), some (.int (t : Int)), some (endsD R ks'), some (.int (i : Int)), some (nD n), x8, x9, x10]) rfl) (ed_tup (ea_cons (ed_var (i := 2) (d := .int (h : Int)) rfl) (ea_cons (ed_var (i := 7) (d := nD n) rfl) ea_nil)) (Nat.le_of_ble_eq_true rfl)) (by rw [look_map, if_pos hin])
      cases hs : Ma.sem R (h, n) with
      | none =>
        rw [hs] at eget hrun
        refine wd_seq (wd_asgG eget (gd_con (gs_cons gd_name (gs_cons gd_name (gs_cons gd_name (gs_cons gd_name gs_nil)))) rfl rfl) ?_)
        refine wd_seq (wd_if (b := true) (et_is (et_test (ed_op (ed_var (d := .str "never") rfl) ed_str rv_eqS)) (by decide)) (fun _ => wd_ret (ed_tup (ea_cons ed_str ea_nil) (Nat.le_of_ble_eq_true rfl)) ?_) (fun h => nomatch h))
        rw [← hrun]; rfl
      | some e =>
        rw [hs] at eget hrun
        have fine := Ma.sem_fine v hs
        obtain ⟨e1', more, handed, left⟩ := e
        have f1 := fine.left
        have f2 := fine.marks
        simp only at f1 f2
        refine wd_seq (wd_asgG eget (gd_tup (gs_cons gd_name (gs_cons gd_name (gs_cons gd_name (gs_cons gd_name gs_nil)))) rfl) ?_)
        cases e1' with
        | none =>
          refine wd_seq (wd_if (b := false) (et_test (ed_op (ed_var (d := .int (-1)) rfl) ed_str rv_eqIS)) (fun h => nomatch h) fun _ => wd_next ?_)
          refine wd_seq (wd_par (ea_cons (ed_slT (lo := none) (hi := some ((1000 : Int) + 1)) (ed_op (ed_var (d := sD m) rfl) (ed_var (d := sD handed) rfl) (rv_cat (by rw [List.length_map, List.length_map]; omega))) eo_none (eo_some (ed_op ed_int ed_int rv_add))) (ea_cons (ed_op (ed_var (d := .int (t : Int)) rfl) (ed_var (d := .int (more : Int)) rfl) rv_add) ea_nil)) ?_)
          refine wd_if (b := true) (et_is (et_test (ed_op (ed_var (d := .int (-1)) rfl) ed_int rv_eqI)) rfl) (fun _ => wd_ret (ed_tup (ea_cons ed_str (ea_cons (ed_var rfl) (ea_cons (ed_op (ed_var (d := sD left) rfl) (ed_slT (ed_var (d := sD l) rfl) (eo_some (ed_op (ed_var rfl) ed_int rv_add)) eo_none) (rv_cat ?_)) (ea_cons (ed_var rfl) ea_nil)))) (Nat.le_of_ble_eq_true rfl)) ?_) (fun h => nomatch h)
          · rw [cutAt, List.length_map, List.length_map, List.length_drop]; omega
          · rw [← hrun]
            show D.tup [.str "rest", .tup (PD.cutD (m.map nD ++ handed.map nD) none (some ((1000 : Int) + 1))), .tup (left.map nD ++ PD.cutD (l.map nD) (some ((i : Int) + 1)) none), .int ((t : Int) + (more : Int))] = D.tup [.str "rest", .tup (((m ++ handed).take 1001).map nD), .tup ((left ++ l.drop (i + 1)).map nD), .int ((t + more : Nat) : Int)]
            rw [cut1001, cutAt, List.map_append, Int.natCast_add]
        | some hh' =>
          refine wd_seq (wd_if (b := false) (et_test (ed_op (ed_var (d := .int (hh' : Int)) rfl) ed_str rv_eqIS)) (fun h => nomatch h) fun _ => wd_next ?_)
          refine wd_seq (wd_par (ea_cons (ed_slT (lo := none) (hi := some ((1000 : Int) + 1)) (ed_op (ed_var (d := sD m) rfl) (ed_var (d := sD handed) rfl) (rv_cat (by rw [List.length_map, List.length_map]; omega))) eo_none (eo_some (ed_op ed_int ed_int rv_add))) (ea_cons (ed_op (ed_var (d := .int (t : Int)) rfl) (ed_var (d := .int (more : Int)) rfl) rv_add) ea_nil)) ?_)
          refine wd_if (b := false) (et_is (et_test (ed_op (ed_var (d := .int (hh' : Int)) rfl) ed_int rv_eqI)) (decide_eq_false (by omega))) (fun h => nomatch h) (fun _ => wd_next ?_)
          refine ⟨hh', t + more, (m ++ handed).take 1001, ks', some (.int (i : Int)), some (nD n), some (.int (more : Int)), some (sD handed), some (sD left), ?_, fine.nx hh' rfl, List.length_take_le _ _, g', hrun⟩
          show [some (rD R), some (sD l), some (.int (hh' : Int)), some (.tup (PD.cutD (m.map nD ++ handed.map nD) none (some ((1000 : Int) + 1)))), some (.int ((t : Int) + (more : Int))), some (endsD R ks'), some (.int (i : Int)), some (nD n), some (.int (more : Int)), some (sD handed), some (sD left)] = _
          rw [cut1001, ← Int.natCast_add]
          rfl
  · obtain ⟨h, t, m, ks, x6, x7, x8, x9, x10, rfl, hh, hm, g, hrun⟩ := hI
    rw [List.length_map, List.drop_length] at hrun
    refine wd_ret (ed_tup (ea_cons ed_str ea_nil) (Nat.le_of_ble_eq_true rfl)) ?_
    rw [← hrun]; rfl
/-- need_few -/
def fFew : List D → (D → Prop) → Prop := fun ds Pd => ∃ m : List Nat, ds = [sD m] ∧ m.length ≤ 1000 ∧ Pd = fun x => x = .non
theorem scFew : FnScope ["marks"] ["marks"] (defScope (topS 24)) := ⟨rfl, rfl, rfl, by decide +kernel, rfl, by decide +kernel, by decide +kernel⟩
theorem ok_few (T : Tx K mg) (a : At K mg "need_few" 24 ["marks"]) : Cal P w K mg base "need_few" 1 ["marks"] fFew := by
  obtain ⟨tG, hG⟩ := T.GREATEST
  refine calD a scFew (fun ds Pd h => by obtain ⟨m, rfl, _⟩ := h; rfl) fun f cdv A outer s H E hr => ?_
  refine ⟨_, pss_one (ps_if (pt_cmpR op_gt (pe_callB call_len_seq (by rfl) T.len PySem.boot_len (pa_cons (pv 0) pa_nil)) (pe_glob (v := .int 1000) (by rfl) hG ⟨_, rfl⟩) (nomark _)) pss_never pss_nil), fun M ds Pd h => ?_⟩
  obtain ⟨m, rfl, hm, rfl⟩ := h
  exact wd_if (b := false) (et_is (et_test (ed_op (ed_cb (ea_cons (ed_var rfl) ea_nil) rc_lenT) ed_int rv_gt)) (decide_eq_false (by rw [List.length_map]; omega))) (fun h => nomatch h) fun _ => wd_next rfl
/-- told_on -/
def fToldOn : List D → (D → Prop) → Prop := fun ds Pd => ∃ (R : Ma.Routine) (l : List Nat), Ma.VR R ∧ l.length ≤ 60 ∧ (∀ x ∈ l, x < 3) ∧ (∀ r, Ma.toldOn (Ma.sem R) l = some r → r.1.length ≤ 1000) ∧ ds = [rD R, sD l] ∧ Pd = fun x => x = runD (Ma.toldOn (Ma.sem R) l)
end
end Sp
/-! Stacks with their lengths, sorted. -/
namespace PD
open PySem PySem.Spec PyProof.Rows L2 PDX
/-- (length, stack) -/
def lenD (w : List Nat) : D := .tup [.int (w.length : Int), sD w]
theorem len_no (w : List Nat) : noD (lenD w) = true := by
  unfold lenD noD
  simp [noDs, noD, sD_no]
def toksOf (w : List Nat) : List (Int ⊕ List Nat) := PySem.W.keyToksAll (w.map fun x => toP (nD x))
theorem toks_len (w : List Nat) : PySem.W.keyToks (toP (lenD w)) = .inl 1 :: .inl (w.length : Int) :: .inl 1 :: (toksOf w ++ [.inl 0]) := by
  unfold lenD toP
  simp only [toPs]
  unfold PySem.W.keyToks
  unfold PySem.W.keyToksAll
  have e1 : PySem.W.keyToks (toP (.int (w.length : Int))) = [.inl (w.length : Int)] := by
    unfold toP PySem.W.keyToks; rfl
  have e2 : PySem.W.keyToks (toP (sD w)) = toksOf w := by
    unfold sD toP
    rw [toPs_map]
    unfold PySem.W.keyToks
    rfl
  rw [e1]
  unfold PySem.W.keyToksAll
  rw [e2]
  unfold PySem.W.keyToksAll
  rfl
theorem toks_cons (a : Nat) (w : List Nat) : toksOf (a :: w) = .inl 1 :: .inl (a : Int) :: toksOf w := by
  have e1 : PySem.W.keyToks (toP (nD a)) = [.inl (a : Int)] := by
    unfold nD toP PySem.W.keyToks; rfl
  have e2 : toksOf (a :: w) = .inl 1 :: (PySem.W.keyToks (toP (nD a)) ++ toksOf w) := by
    unfold toksOf
    rw [List.map_cons, PySem.W.keyToksAll]
  rw [e2, e1]
  rfl
theorem blt_int (a b : Int) : itemOrd.blt (.inl a) (.inl b) = decide (a < b) := rfl
theorem toks_lt : ∀ {x y : List Nat} (r t : List (Int ⊕ List Nat)), x.length = y.length → (∀ s ∈ x, s < 4) → (∀ s ∈ y, s < 4) → Ma.code x < Ma.code y → PyProof.Rows.lexLt itemOrd (toksOf x ++ r) (toksOf y ++ t) = true
  | [], [], _, _, _, _, _, h => absurd h (Nat.lt_irrefl _)
  | [], _ :: _, _, _, h, _, _, _ => by cases h
  | _ :: _, [], _, _, h, _, _, _ => by cases h
  | a :: x, b :: y, r, t, h, hx, hy, hc => by
    have hx' : ∀ s ∈ x, s < 4 := fun s hs => hx s (List.mem_cons_of_mem _ hs)
    have hy' : ∀ s ∈ y, s < 4 := fun s hs => hy s (List.mem_cons_of_mem _ hs)
    have hl : x.length = y.length := by simpa using h
    rw [Ma.code_cons hx' hy' hl] at hc
    rw [toks_cons, toks_cons]
    rw [List.cons_append, List.cons_append, List.cons_append, List.cons_append]
    rw [lex_self (O := itemOrd)]
    rw [lex_true (O := itemOrd), blt_int, blt_int]
    rcases hc with hc | ⟨rfl, hc⟩
    · exact .inl (decide_eq_true (by omega))
    · exact .inr ⟨decide_eq_false (by omega), toks_lt r t hl hx' hy' hc⟩
theorem le_code {x y : List Nat} (hx : ∀ s ∈ x, s < 4) (hy : ∀ s ∈ y, s < 4) (h : PySem.W.dataLe false toP (lenD x) (lenD y) = true) : Ma.code x ≤ Ma.code y := by
  rcases Nat.lt_or_ge (Ma.code y) (Ma.code x) with c | c
  · exfalso
    have hlt : PyProof.Rows.lexLt itemOrd (PySem.W.keyToks (toP (lenD y))) (PySem.W.keyToks (toP (lenD x))) = true := by
      rw [toks_len, toks_len, lex_self (O := itemOrd)]
      rcases Nat.lt_trichotomy y.length x.length with e | e | e
      · rw [lex_true (O := itemOrd), blt_int]
        exact .inl (decide_eq_true (by omega))
      · rw [e, lex_self (O := itemOrd), lex_self (O := itemOrd)]
        exact toks_lt _ _ e hy hx c
      · have := Ma.code_len hx e
        omega
    have hle : (!PyProof.Rows.lexLt itemOrd (PySem.W.keyToks (toP (lenD y))) (PySem.W.keyToks (toP (lenD x)))) = true := h
    rw [hlt] at hle
    cases hle
  · exact c
theorem len_alike (x y : List Nat) : PySem.W.alike (toP (lenD x)) (toP (lenD y)) = true := by
  have gen : ∀ x y : List Nat, PySem.W.alikeAll (x.map fun s => toP (nD s)) (y.map fun s => toP (nD s)) = true := by
    intro x
    induction x with
    | nil => intro y; unfold PySem.W.alikeAll; cases y <;> rfl
    | cons a x ih =>
      intro y
      cases y with
      | nil => rw [List.map_cons]; unfold PySem.W.alikeAll; rfl
      | cons b y =>
        rw [List.map_cons, List.map_cons]
        unfold PySem.W.alikeAll
        rw [ih y]
        have : PySem.W.alike (toP (nD a)) (toP (nD b)) = true := by
          unfold nD toP PySem.W.alike; rfl
        rw [this]; rfl
  unfold lenD toP
  simp only [toPs]
  unfold PySem.W.alike
  unfold PySem.W.alikeAll
  have e1 : PySem.W.alike (toP (.int (x.length : Int))) (toP (.int (y.length : Int))) = true := by
    unfold toP PySem.W.alike; rfl
  have e2 : PySem.W.alike (toP (sD x)) (toP (sD y)) = true := by
    unfold sD toP
    rw [toPs_map, toPs_map]
    unfold PySem.W.alike
    exact gen x y
  rw [e1, Bool.true_and]
  unfold PySem.W.alikeAll
  rw [e2, Bool.true_and]
  unfold PySem.W.alikeAll
  rfl
theorem len_depth (w : List Nat) : (toP (lenD w)).depth ≤ 8 := by
  unfold lenD toP
  simp only [toPs]
  refine Nat.le_trans (depth_tup (n := 1) fun p hp => ?_) (by omega)
  rcases List.mem_cons.mp hp with e | hp
  · rw [e]; unfold toP PyData.depth; omega
  · rw [List.mem_singleton.mp hp]; exact (sortsP_room w).2
/-- the first of them is the least -/
theorem sorted_first {c : List (List Nat)} (h4 : ∀ x ∈ c, ∀ s ∈ x, s < 4) {T : List Nat} (hT : Ma.minL c = some T) : ((c.map lenD).mergeSort (PySem.W.dataLe false toP))[0]? = some (lenD T) := by
  obtain ⟨m1, m2⟩ := Ma.minL_ok hT
  have hp := List.mergeSort_perm (c.map lenD) (PySem.W.dataLe false toP)
  have hs := PySem.W.sort_pairwise (PySem.W.sortLe_total (listOrd itemOrd) false fun b => PySem.W.keyToks (toP b)) (c.map lenD)
  cases hl : (c.map lenD).mergeSort (PySem.W.dataLe false toP) with
  | nil =>
    rw [hl] at hp
    have := hp.length_eq
    rw [List.length_map] at this
    have : c = [] := List.length_eq_zero_iff.mp this.symm
    rw [this] at m1
    cases m1
  | cons d r =>
    have hd : d ∈ c.map lenD := hp.mem_iff.mp (by rw [hl]; exact List.mem_cons_self)
    obtain ⟨x, hx, rfl⟩ := List.mem_map.mp hd
    have hpw : (lenD x :: r).Pairwise fun a b => PySem.W.dataLe false toP a b = true := by rw [← hl]; exact hs
    rw [List.pairwise_cons] at hpw
    have hle : ∀ y ∈ c, Ma.code x ≤ Ma.code y := fun y hy => by
      have : lenD y ∈ lenD x :: r := by rw [← hl]; exact hp.mem_iff.mpr (List.mem_map.mpr ⟨y, hy, rfl⟩)
      rcases List.mem_cons.mp this with e | e
      · have : y = x := by
          unfold lenD sD at e
          injection e with e
          injection e with _ e
          injection e with e
          injection e with e
          have inj : ∀ {a b : List Nat}, a.map nD = b.map nD → a = b := by
            intro a
            induction a with
            | nil => intro b h; cases b with
              | nil => rfl
              | cons y b => cases h
            | cons z a ih =>
              intro b h
              cases b with
              | nil => cases h
              | cons y b =>
                rw [List.map_cons, List.map_cons] at h
                injection h with h1 h2
                unfold nD at h1
                injection h1 with h1
                have : z = y := by omega
                rw [this, ih h2]
          exact inj e
        rw [this]; exact Nat.le_refl _
      · exact le_code (h4 x hx) (h4 y hy) (hpw.1 _ e)
    have e1 : Ma.code x = Ma.code T := Nat.le_antisymm (hle T m1) (m2 x hx)
    rw [Ma.code_inj (h4 x hx) (h4 T m1) e1]
    rfl
end PD
namespace Sp
open PySem PySem.Spec PyProof.Rows L2 PD PDX
section
variable {P : Program} {w : World} {K : PySem.W.Frag} {mg : Str → Option Value} {base : Heap}
/-- what was found -/
def fKey (n : Nat) : Key := .inl (n : Int)
def foundD (f : Ma.Found) : D := .dk (f.map fun x => fKey x.1) (f.map fun x => sD x.2)
theorem fKey_inj {a b : Nat} (h : fKey a = fKey b) : a = b := by
  have : (a : Int) = (b : Int) := Sum.inl.inj h
  omega
theorem look_found : ∀ (f : Ma.Found) (p : Nat), lookK (f.map fun x => fKey x.1) (f.map fun x => sD x.2) (fKey p) = (Ma.lkp f p).map sD
  | [], _ => rfl
  | (k, x) :: f, p => by
    rw [List.map_cons, List.map_cons]
    unfold lookK Ma.lkp
    by_cases e : k = p
    · subst e
      rw [if_pos rfl, if_pos rfl]; rfl
    · rw [if_neg e, if_neg (fun z => e (fKey_inj z)), look_found f p]
theorem nodup_found {f : Ma.Found} (h : (f.map (·.1)).Nodup) : (f.map fun x => fKey x.1).Nodup := by
  induction f with
  | nil => exact List.nodup_nil
  | cons a f ih =>
    rw [List.map_cons, List.nodup_cons] at h ⊢
    refine ⟨fun z => h.1 ?_, ih h.2⟩
    obtain ⟨x, hx, e⟩ := List.mem_map.mp z
    exact List.mem_map.mpr ⟨x, hx, fKey_inj e⟩
theorem put_found {f : Ma.Found} {h : Nat} {u : List Nat} (hn : Ma.lkp f h = none) : putKs (f.map fun x => fKey x.1) (fKey h) = (f ++ [(h, u)]).map (fun x => fKey x.1) ∧ putDs (f.map fun x => fKey x.1) (f.map fun x => sD x.2) (fKey h) (sD u) = (f ++ [(h, u)]).map (fun x => sD x.2) ∧
    ∀ i : Nat, (f.map fun x => fKey x.1)[i]? = some (fKey h) → (f.map fun x => sD x.2)[i]? = some (sD u) := by
  have hm : fKey h ∉ f.map fun x => fKey x.1 := fun z => by
    obtain ⟨x, hx, e⟩ := List.mem_map.mp z
    exact Ma.lkp_none hn x hx (fKey_inj e)
  unfold putKs putDs
  rw [if_neg hm, if_neg hm, List.map_append, List.map_append]
  exact ⟨rfl, rfl, fun i hi => absurd (List.mem_of_getElem? hi) hm⟩
/-- the end of an entry, as it stands there -/
def endOf : Option Ma.Entry → D
  | none => .str "never"
  | some e => eD e.1
theorem rv_end {K : PySem.W.Frag} {M : Addr → Prop} (o : Option Ma.Entry) : RvD K M (rIxT K) (entD o) (.int 0) (endOf o) := by
  cases o with
  | none => exact rv_ixC rfl rfl
  | some e => exact rv_ixT rfl
def fLed : List D → (D → Prop) → Prop := fun ds Pd => ∃ R : Ma.Routine, Ma.VR R ∧ ds = [rD R] ∧ Pd = fun x => ∃ ks, x = .tup [foundD (Ma.ledM (Ma.sem R)), endsD R ks] ∧ Gk R ks ∧ ∀ y ∈ Ma.ledM (Ma.sem R), ∀ s, s < 4 → (y.1, s) ∈ ks
abbrev nLed : List Str := ["routine", "found", "line", "ends", "post", "sort", "later"]
theorem scLed : FnScope nLed ["routine"] (defScope (topS 25)) := ⟨rfl, rfl, rfl, by decide +kernel, rfl, by decide +kernel, by decide +kernel⟩
theorem dl_sem {R : Ma.Routine} {p s : Nat} : Ma.dl (Ma.sem R) p s = match Ma.sem R (p, s) with | some (some h, _) => some h | _ => none := rfl
theorem lst_nil (l : List Nat) : PyData.eqv (toP (.lst (l.map nD))) (toP (.lst [])) = decide (l = []) := by
  unfold toP
  rw [toPs_map]
  cases l with
  | nil => rfl
  | cons p l => rfl
theorem nD_room (l : List Nat) : SeqAt.shaped (toP (.lst (l.map nD))) = true := by
  unfold toP
  rw [toPs_map]
  exact shaped_lst _ fun p hp => by
    obtain ⟨n, _, rfl⟩ := List.mem_map.mp hp
    exact int_room _
theorem nD_no (l : List Nat) : noD (.lst (l.map nD)) = true := by
  unfold noD
  exact noDs_map nD l fun x _ => by unfold nD noD; rfl
theorem cutTail {α : Type} (x : α) (xs : List α) : PD.cutD (x :: xs) (some 1) none = xs := by
  rw [show (1 : Int) = ((1 : Nat) : Int) from rfl, cutFrom]
  rfl
theorem ok_led (T : Tx K mg) (a : At K mg "led_posts" 25 ["routine"]) (C1 : Cal P w K mg base "with_ends" 2 ["routine", "pair", "ends"] fWith) : Cal P w K mg base "led_posts" 3 ["routine"] fLed := by
  obtain ⟨f1, fd1, G1, m1, k1, b1⟩ := C1
  obtain ⟨tS, hS⟩ := T.SORTS
  obtain ⟨tR, hR⟩ := T.REST
  obtain ⟨tN, hN⟩ := T.NEVER
  refine calD a scLed (fun ds Pd h => by obtain ⟨R, _, rfl, _⟩ := h; rfl) fun f cdv A outer s H E hr => ?_
  have hu := hu_of hr
  refine ⟨_, pss_cons (ps_par3 (i := 1) (j := 2) (l := 3) rfl scLed.nd rfl rfl rfl (by decide) (by decide) (by decide) rfl rfl rfl (pa_cons (pe_disp (pps_cons pe_int (pe_tup pa_nil) pps_nil) (by rfl) (by rfl) (fun z => by cases z) (by decide)) (pa_cons (pe_lst (pa_cons pe_int pa_nil)) (pa_cons pe_dnewT pa_nil))) (by rfl))
    (pss_cons (ps_while PassesOwn.never (pt_cmpR (op_neD hr.units) (pv 2) (pe_lst pa_nil) (nomark _))
      (pss_cons (ps_par (i := 4) (j := 2) rfl scLed.nd rfl rfl (by decide) rfl rfl (pa_cons (pe_ix ix_list (pv 2) pe_int (fun _ _ => rfl)) (pa_cons (pe_slice sl_list (pv 2) (po_some pe_int) po_none) pa_nil)) (by rfl))
      (pss_one (ps_for PassesOwn.never rfl (pi_range1 (by rfl) T.range (pa_cons (pe_op op_add (pe_glob (v := .int 3) (by rfl) hS ⟨_, rfl⟩) pe_int) pa_nil)) (pg_name (i := 5) scLed.nd rfl (.inl rfl))
        (pss_cons (ps_set (i := 3) scLed.nd rfl (.inl rfl) (pe_call G1 hr (by rfl) m1 k1 b1 .nil pass0 (pa_cons (pv 0) (pa_cons (pe_tup (pa_cons (pv 4) (pa_cons (pv 5) pa_nil))) (pa_cons (pv 3) pa_nil)))))
        (pss_cons (ps_set (i := 6) scLed.nd rfl (.inl rfl) (pe_ix ix_tup (pe_dget hu (pv 3) (pe_tup (pa_cons (pv 4) (pa_cons (pv 5) pa_nil))) (fun _ _ => rfl)) pe_int (fun _ _ => rfl)))
        (pss_one (ps_if (PW.pt (pw_and (pt_cmpR op_ne (pv 6) (pe_glob (v := .int (-1)) (by rfl) hR ⟨_, rfl⟩) (nomark _)) (pw_and (pt_cmpR op_ne (pv 6) (pe_glob (v := .str "never") (by rfl) hN ⟨_, rfl⟩) (nomark _)) (pw_and1 (pt_cmp (pc_dnotin hu (pv 6) (pv 1)))))))
          (pss_one (ps_par (i := 1) (j := 2) rfl scLed.nd rfl rfl (by decide) rfl rfl (pa_cons (pe_putK (pv 1) (pv 6) (pe_op op_catA (pe_dget hu (pv 1) (pv 4) (fun _ _ => rfl)) (pe_tup (pa_cons (pv 5) pa_nil)))) (pa_cons (pe_op op_cat (pv 2) (pe_lst (pa_cons (pv 6) pa_nil))) pa_nil)) (by rfl))) pss_nil))))))))
    (pss_one (ps_ret (pe_tup (pa_cons (pv 1) (pa_cons (pv 3) pa_nil)))))), fun M ds Pd h => ?_⟩
  obtain ⟨R, v, rfl, rfl⟩ := h
  have gd := Ma.sem_good v
  have h0 : EvD K M (tDisp [(tC (.int 0), tTup tNil)]) (startT nLed [rD R]) (foundD Ma.found0) := by
    intro σ H r Q q p hp
    have hM : ¬ M p := not_M r.tr hp
    refine ⟨Nat.zero_le _, fun a ha => ⟨by rw [upd_ne (fun e => by rw [← e, upd_same] at ha; cases ha), upd_same], [(.inl 0, .ref a)], rfl, Nat.le_of_ble_eq_true rfl, ?_⟩⟩
    have hap : a ≠ p := fun e => by rw [e, upd_same] at ha; cases ha
    have hMa : ¬ M a := fun m => by
      have := r.tr a m
      rw [upd_ne hap] at ha
      exact this ha
    refine q _ _ (fun b u _ hb => ?_) (Rp.dk hM upd_same rfl (RpL.cons (Rp.tup (vs := []) hMa (by rw [upd_ne hap, upd_same]) RpL.nil) RpL.nil))
    have h1 : b ≠ p := ne_of_none hb hp
    have h2 : b ≠ a := fun e => by
      rw [upd_ne hap] at ha
      rw [e, ha] at hb
      cases hb
    rw [upd_ne h1, upd_ne h2, upd_ne h1]
    exact hb
  refine wd_seq (wd_par3 (ea_cons h0 (ea_cons (ed_lst (ea_cons ed_int ea_nil) (Nat.le_of_ble_eq_true rfl)) (ea_cons ed_dnewT ea_nil))) ?_)
  refine wd_seq (wd_while (fun m τ => ∃ (fo : Ma.Found) (k : Nat) (ks : List Ma.Pair) (x4 x5 x6 : Option D), τ = [some (rD R), some (foundD fo), some (.lst (((fo.map (·.1)).drop k).map nD)), some (endsD R ks), x4, x5, x6] ∧ Ma.BI (Ma.sem R) R.length fo k ∧ k ≤ fo.length ∧ R.length - k ≤ m ∧ Gk R ks ∧
      Ma.bfs (Ma.sem R) m fo ((fo.map (·.1)).drop k) = Ma.ledM (Ma.sem R) ∧ ∀ (j : Nat) (y : Nat × List Nat), j < k → fo[j]? = some y → ∀ s, s < 4 → (y.1, s) ∈ ks)
    7 ⟨Ma.found0, 0, [], none, none, none, rfl, Ma.BI.start v.lo, Nat.zero_le _, by have := v.hi; omega, ⟨List.nodup_nil, fun q h => by cases h⟩, rfl, fun j y hj => absurd hj (Nat.not_lt_zero _)⟩ fun m τ hI => ?_)
  obtain ⟨fo, k, ks, x4, x5, x6, rfl, b, hk, hm, g, hbfs, hdone⟩ := hI
  have hfl := b.flen
  refine ⟨!decide ((fo.map (·.1)).drop k = []), et_is (et_test (ed_op (ed_var (d := .lst (((fo.map (·.1)).drop k).map nD)) rfl) (ed_lst ea_nil (Nat.le_of_ble_eq_true rfl)) (rv_neD (nD_no _) rfl (nD_room _) (by decide)))) (by rw [lst_nil]), fun hb => ?_, fun hb => ?_⟩
  · have hlt : k < fo.length := by
      rcases Nat.lt_or_ge k fo.length with c | c
      · exact c
      · have : (fo.map (·.1)).drop k = [] := List.drop_eq_nil_of_le (by rw [List.length_map]; exact c)
        rw [this] at hb
        cases hb
    obtain ⟨y, hy⟩ : ∃ y, fo[k]? = some y := ⟨_, List.getElem?_eq_getElem hlt⟩
    have hdr : (fo.map (·.1)).drop k = y.1 :: (fo.map (·.1)).drop (k + 1) := by
      rw [List.drop_eq_getElem_cons (by rw [List.length_map]; exact hlt), List.getElem_map]
      obtain ⟨_, hv⟩ := List.getElem?_eq_some_iff.mp hy
      rw [hv]
    have hyR : y.1 < R.length := b.lt y (List.mem_of_getElem? hy)
    cases m with
    | zero => omega
    | succ m =>
      rw [hdr] at hbfs ⊢
      have hbfs' : Ma.bfs (Ma.sem R) m ([0, 1, 2, 3].foldl (Ma.visit (Ma.sem R) y.1) (fo, (fo.map (·.1)).drop (k + 1))).1 ([0, 1, 2, 3].foldl (Ma.visit (Ma.sem R) y.1) (fo, (fo.map (·.1)).drop (k + 1))).2 = Ma.ledM (Ma.sem R) := hbfs
      obtain ⟨bI, new, hn1, hn2⟩ := Ma.visit4 (l := (fo.map (·.1)).drop (k + 1)) gd b hy
      refine wd_seq (wd_par (ea_cons (ed_op (ed_var (d := .lst ((y.1 :: (fo.map (·.1)).drop (k + 1)).map nD)) rfl) ed_int (rv_ixL (d := nD y.1) (L2.atI_nat (j := 0) rfl))) (ea_cons (ed_slL (ed_var (d := .lst ((y.1 :: (fo.map (·.1)).drop (k + 1)).map nD)) rfl) (eo_some ed_int) eo_none) ea_nil)) ?_)
      refine wd_range (n := 4) (by decide) (ea_cons (ed_is (ed_op ed_int ed_int rv_add) rfl) ea_nil)
        (fun s τ => ∃ (st : Ma.Found × List Nat) (ks' : List Ma.Pair) (x5 x6 : Option D), τ = [some (rD R), some (foundD st.1), some (.lst (st.2.map nD)), some (endsD R ks'), some (nD y.1), x5, x6] ∧ st = (([0, 1, 2, 3].take s).foldl (Ma.visit (Ma.sem R) y.1) (fo, (fo.map (·.1)).drop (k + 1))) ∧ Ma.BJ (Ma.sem R) R.length st.1 k s y ∧ st.2.length ≤ 100 + s ∧
          Gk R ks' ∧ (∀ q ∈ ks, q ∈ ks') ∧ ∀ t, t < s → (y.1, t) ∈ ks') ?_ (fun s τ hs4 hJ => ?_) (fun τ hJ => ?_)
      · refine ⟨(fo, (fo.map (·.1)).drop (k + 1)), ks, x5, x6, ?_, rfl, ⟨b.root, b.nd, b.lt, b.w3, b.len, b.to, b.up, hy, b.bd y hy, b.cl, fun t h ht => absurd ht (Nat.not_lt_zero _)⟩, ?_, g, fun q h => h, fun t ht => absurd ht (Nat.not_lt_zero _)⟩
        · show [some (rD R), some (foundD fo), some (D.lst (PD.cutD (nD y.1 :: ((fo.map (·.1)).drop (k + 1)).map nD) (some 1) none)), some (endsD R ks), some (nD y.1), x5, x6] = _
          rw [cutTail]
        · have := v.hi
          show ((fo.map (·.1)).drop (k + 1)).length ≤ 100 + 0
          rw [List.length_drop, List.length_map]
          omega
      · obtain ⟨st, ks', x5, x6, rfl, hst, bj, hsl, g', hks, hdn⟩ := hJ
        have hp : (y.1, s) ∈ Ma.pairsOf R.length := Ma.mem_pairs.mpr ⟨hyR, hs4⟩
        refine wd_seq (wd_asgP (ed_call (ea_cons (ed_var (d := rD R) rfl) (ea_cons (ed_tup (ea_cons (ed_var (d := nD y.1) rfl) (ea_cons (ed_var (d := .int (s : Int)) rfl) ea_nil)) (Nat.le_of_ble_eq_true rfl)) (ea_cons (ed_var (d := endsD R ks') rfl) ea_nil))) ⟨R, (y.1, s), ks', v, hp, g', rfl, rfl⟩) fun d hd => ?_)
        obtain ⟨ks2, rfl, g2, hin, hsub⟩ := hd
        have eget : EvD K M _ _ _ := ed_op (ed_dgetT (k := kP (y.1, s)) (d := entD (Ma.sem R (y.1, s))) (ed_var (d := endsD R ks2) (i := 3) (τ := [some (rD R), some (foundD st.1), some (.lst (st.2.map nD)), some (endsD R ks2), some (nD y.1), some (.int (s : Int)), x6]) rfl) (ed_tup (ea_cons (ed_var (i := 4) (d := nD y.1) rfl) (ea_cons (ed_var (i := 5) (d := .int (s : Int)) rfl) ea_nil)) (Nat.le_of_ble_eq_true rfl)) (by rw [look_map, if_pos hin])) ed_int (rv_end (K := K) (M := M) (Ma.sem R (y.1, s)))
        refine wd_seq (wd_asg eget ?_)
        have hd2 : ∀ t, t < s + 1 → (y.1, t) ∈ ks2 := fun t ht => by
          by_cases e : t = s
          · rw [e]; exact hin
          · exact hsub _ (hdn t (by omega))
        have htake : [0, 1, 2, 3].take (s + 1) = [0, 1, 2, 3].take s ++ [s] := by
          have : s = 0 ∨ s = 1 ∨ s = 2 ∨ s = 3 := by omega
          rcases this with rfl | rfl | rfl | rfl <;> rfl
        have hst' : ([0, 1, 2, 3].take (s + 1)).foldl (Ma.visit (Ma.sem R) y.1) (fo, (fo.map (·.1)).drop (k + 1)) = Ma.visit (Ma.sem R) y.1 st s := by
          rw [htake, List.foldl_append, ← hst]; rfl
        obtain ⟨st1, st2⟩ := st
        obtain ⟨bj', _⟩ := Ma.visit_BJ (l := st2) gd bj hs4
        have stay : Ma.visit (Ma.sem R) y.1 (st1, st2) s = (st1, st2) → ∃ (st : Ma.Found × List Nat) (ks' : List Ma.Pair) (z5 z6 : Option D), [some (rD R), some (foundD st1), some (.lst (st2.map nD)), some (endsD R ks2), some (nD y.1), some (.int (s : Int)), some (endOf (Ma.sem R (y.1, s)))] = [some (rD R), some (foundD st.1), some (.lst (st.2.map nD)), some (endsD R ks'), some (nD y.1), z5, z6] ∧ st = (([0, 1, 2, 3].take (s + 1)).foldl (Ma.visit (Ma.sem R) y.1) (fo, (fo.map (·.1)).drop (k + 1))) ∧ Ma.BJ (Ma.sem R) R.length st.1 k (s + 1) y ∧ st.2.length ≤ 100 + (s + 1) ∧
          Gk R ks' ∧ (∀ q ∈ ks, q ∈ ks') ∧ ∀ t, t < s + 1 → (y.1, t) ∈ ks' := fun e => by
          rw [e] at bj'
          exact ⟨(st1, st2), ks2, _, _, rfl, by rw [hst', e], bj', by simp only at hsl ⊢; omega, g2, fun q h => hsub q (hks q h), hd2⟩
        cases hsem : Ma.sem R (y.1, s) with
        | none =>
          have hdl : Ma.dl (Ma.sem R) y.1 s = none := by rw [dl_sem, hsem]
          rw [hsem] at stay
          refine wd_if (b := false) (et_is (et_and (et_test (ed_op (ed_var (d := .str "never") rfl) ed_int rv_neSI)) fun _ => et_and (et_test (ed_op (ed_var (d := .str "never") rfl) ed_str rv_neS)) fun h => absurd h (by decide)) (b := (true && (!decide (("never" : Str) = "never") && true))) (by decide)) (fun h => nomatch h) (fun _ => wd_next (stay ?_))
          unfold Ma.visit
          rw [hdl]
        | some e =>
          obtain ⟨e1, e2⟩ := e
          cases e1 with
          | none =>
            have hdl : Ma.dl (Ma.sem R) y.1 s = none := by rw [dl_sem, hsem]
            rw [hsem] at stay
            refine wd_if (b := false) (et_is (et_and (b := true) (et_test (ed_op (ed_var (d := .int (-1)) rfl) ed_int rv_neI)) fun h => absurd h (by decide)) (by decide)) (fun h => nomatch h) (fun _ => wd_next (stay ?_))
            unfold Ma.visit
            rw [hdl]
          | some h =>
            have hdl : Ma.dl (Ma.sem R) y.1 s = some h := by rw [dl_sem, hsem]
            have hnr : decide ((h : Int) = -1) = false := decide_eq_false (by omega)
            refine wd_if (b := (Ma.lkp st1 h).isNone) (et_is (et_and (et_test (ed_op (ed_var (d := .int (h : Int)) rfl) ed_int rv_neI)) fun _ => et_and (et_test (ed_op (ed_var (d := .int (h : Int)) rfl) ed_str rv_neIS)) fun _ => et_B (ed_dninK (k := fKey h) (ed_var (d := .int (h : Int)) rfl) (ed_var (d := foundD st1) rfl))) ?_) (fun hb => ?_) (fun hb => wd_next ?_)
            · rw [hnr, look_found]
              cases Ma.lkp st1 h <;> rfl
            · have hn : Ma.lkp st1 h = none := Option.isNone_iff_eq_none.mp hb
              have hyf : Ma.lkp st1 y.1 = some y.2 := Ma.lkp_of bj.nd (List.mem_of_getElem? bj.here)
              obtain ⟨q1, q2, q3⟩ := put_found (f := st1) (u := y.2 ++ [s]) hn
              have hlen1 := bj.len y (List.mem_of_getElem? bj.here)
              have hst1 : st1.length ≤ R.length := by
                have := Ma.len_le_of_sub bj.nd (m := List.range R.length) fun p hp => by
                  obtain ⟨x, hx, rfl⟩ := List.mem_map.mp hp
                  exact List.mem_range.mpr (bj.lt x hx)
                simpa using this
              have hv6 := v.hi
              simp only at hsl hlen1
              have ewd : ∀ M, EvD K M (tOp (rCatA K) (tDGet (tVar 1) (tVar 4)) (tTup (tCons (tVar 5) tNil))) [some (rD R), some (foundD st1), some (.lst (st2.map nD)), some (endsD R ks2), some (nD y.1), some (.int (s : Int)), some (.int (h : Int))] (sD (y.2 ++ [s])) := fun M =>
                ed_is (ed_op (ed_dgetK (k := fKey y.1) (d := sD y.2) (ed_var (d := foundD st1) rfl) (ed_var (d := nD y.1) rfl) (by rw [look_found, hyf]; rfl)) (ed_tup (ea_cons (ed_var (d := .int (s : Int)) rfl) ea_nil) (Nat.le_of_ble_eq_true rfl)) (rv_cat (by rw [List.length_map]; show y.2.length + 1 ≤ 100000; omega))) (by unfold sD; rw [List.map_append]; rfl)
              refine wd_par (ea_cons (ed_putK (k := fKey h) (d := sD (y.2 ++ [s])) (fun M => ed_var (d := foundD st1) rfl) (fun M => ed_var (d := .int (h : Int)) rfl) ewd (nodup_found bj.nd) (by rw [List.length_map]; omega) q3) (ea_cons (ed_op (ed_var (d := .lst (st2.map nD)) rfl) (ed_lst (ea_cons (ed_var (d := .int (h : Int)) rfl) ea_nil) (Nat.le_of_ble_eq_true rfl)) (rv_catL (by rw [List.length_map]; show st2.length + 1 ≤ 100000; omega))) ea_nil)) ?_
              have hvis : Ma.visit (Ma.sem R) y.1 (st1, st2) s = (st1 ++ [(h, y.2 ++ [s])], st2 ++ [h]) := by
                unfold Ma.visit
                rw [hdl]
                simp [hn, hyf]
              rw [hvis] at bj'
              refine ⟨(st1 ++ [(h, y.2 ++ [s])], st2 ++ [h]), ks2, some (.int (s : Int)), some (.int (h : Int)), ?_, by rw [hst', hvis], bj', ?_, g2, fun q h => hsub q (hks q h), hd2⟩
              · show [some (rD R), some (D.dk (putKs (st1.map fun x => fKey x.1) (fKey h)) (putDs (st1.map fun x => fKey x.1) (st1.map fun x => sD x.2) (fKey h) (sD (y.2 ++ [s])))), some (D.lst (st2.map nD ++ [nD h])), some (endsD R ks2), some (nD y.1), some (.int (s : Int)), some (.int (h : Int))] = _
                rw [q1, q2]
                unfold foundD
                rw [List.map_append (l₁ := st2)]
                rfl
              · show (st2 ++ [h]).length ≤ _
                rw [List.length_append, List.length_singleton]; omega
            · have hvis : Ma.visit (Ma.sem R) y.1 (st1, st2) s = (st1, st2) := by
                unfold Ma.visit
                rw [hdl]
                cases hl : Ma.lkp st1 h with
                | none => rw [hl] at hb; cases hb
                | some _ => simp [hl]
              rw [hsem] at stay
              exact stay hvis
      · obtain ⟨st, ks', x5, x6, rfl, hst, bj, hsl, g', hks, hdn⟩ := hJ
        have hst4 : st = [0, 1, 2, 3].foldl (Ma.visit (Ma.sem R) y.1) (fo, (fo.map (·.1)).drop (k + 1)) := hst
        rw [← hst4] at hbfs' bI hn1 hn2
        have e2 : st.2 = (st.1.map (·.1)).drop (k + 1) := by
          rw [hn2, hn1, List.map_append, List.drop_append_of_le_length (by rw [List.length_map]; exact hlt)]
        refine ⟨m, Nat.lt_succ_self m, st.1, k + 1, ks', some (nD y.1), x5, x6, by rw [← e2], bI, ?_, by omega, g', by rw [← e2]; exact hbfs', fun j z hj hz s hs => ?_⟩
        · rw [hn1, List.length_append]; omega
        · rw [hn1, List.getElem?_append_left (by omega)] at hz
          by_cases e : j = k
          · rw [e, hy] at hz
            cases hz
            exact hdn s hs
          · exact hks _ (hdone j z (by omega) hz s hs)
  · have hle : (fo.map (·.1)).drop k = [] := by
      by_cases e : (fo.map (·.1)).drop k = []
      · exact e
      · rw [decide_eq_false e] at hb; cases hb
    rw [hle, Ma.bfs_nil] at hbfs
    rw [← hbfs]
    have hk2 : fo.length ≤ k := by
      rw [List.drop_eq_nil_iff, List.length_map] at hle
      exact hle
    refine wd_ret (ed_tup (ea_cons (ed_var rfl) (ea_cons (ed_var rfl) ea_nil)) (Nat.le_of_ble_eq_true rfl)) ⟨ks, rfl, g, fun y hy s hs => ?_⟩
    obtain ⟨j, hj⟩ := List.mem_iff_getElem?.mp hy
    have := (List.getElem?_eq_some_iff.mp hj).1
    exact hdone j y (by omega) hj s hs
end
end Sp
namespace Sp
open PySem PySem.Spec PyProof.Rows L2 PD PDX
mutual
theorem noK_of : ∀ {d : D}, noD d = true → noK d = true
  | .non, _ => by unfold noK; rfl
  | .bl _, _ => by unfold noK; rfl
  | .int _, _ => by unfold noK; rfl
  | .str _, _ => by unfold noK; rfl
  | .ty _, _ => by unfold noK; rfl
  | .adr _, h => by unfold noD at h; cases h
  | .con _, _ => by unfold noK; rfl
  | .tup ds, h => by unfold noD at h; unfold noK; exact noKs_of h
  | .lst ds, h => by unfold noD at h; unfold noK; exact noKs_of h
  | .dk _ _, h => by unfold noD at h; cases h
  | .dt _ _, h => by unfold noD at h; cases h
  | .dkz _ _, h => by unfold noD at h; cases h
theorem noKs_of : ∀ {ds : List D}, noDs ds = true → noKs ds = true
  | [], _ => by unfold noKs; rfl
  | d :: ds, h => by
    unfold noDs at h
    rw [Bool.and_eq_true] at h
    unfold noKs
    rw [noK_of h.1, noKs_of h.2]; rfl
end
theorem eD_no (o : Option Nat) : noD (eD o) = true := by
  cases o <;> (unfold eD noD; rfl)
theorem mD_no (m : Ma.Move) : noD (mD m) = true := by
  unfold mD noD
  simp [noDs, sD_no, eD_no]
theorem rD_no (R : Ma.Routine) : noD (rD R) = true := by
  unfold rD noD
  refine noDs_map pD R fun post _ => ?_
  unfold pD noD
  exact noDs_map mD post fun m _ => mD_no m
theorem entD_no (o : Option Ma.Entry) : noD (entD o) = true := by
  cases o with
  | none => unfold entD noD; rfl
  | some e =>
    unfold entD
    unfold noD
    simp [noDs, sD_no, eD_no, noD]
theorem ends_noK (R : Ma.Routine) (ks : List Ma.Pair) : noK (endsD R ks) = true := by
  unfold endsD noK
  exact noKs_of (noDs_map _ ks fun q _ => entD_no _)
theorem stacks_no (c : List (List Nat)) : noD (.lst (c.map sD)) = true := by
  unfold noD
  exact noDs_map sD c fun x _ => sD_no x
theorem stacks_shaped (c : List (List Nat)) : SeqAt.shaped (toP (.lst (c.map sD))) = true := by
  unfold toP
  rw [toPs_map]
  exact shaped_lst _ fun p hp => by
    obtain ⟨x, _, rfl⟩ := List.mem_map.mp hp
    have := sortsP_room x
    exact ⟨this.1, by omega⟩
theorem stacks_nil (c : List (List Nat)) : PyData.eqv (toP (.lst (c.map sD))) (toP (.lst [])) = decide (c = []) := by
  unfold toP
  rw [toPs_map]
  cases c with
  | nil => rfl
  | cons p l => rfl
section
variable {P : Program} {w : World} {K : PySem.W.Frag} {mg : Str → Option Value} {base : Heap}
def okX (x : Option D) : Prop := ∀ d, x = some d → noK d = true
def optD : Option (List Nat) → D
  | none => .non
  | some T => sD T
def withLen : D → D
  | .tup xs => .tup [.int (xs.length : Int), .tup xs]
  | d => d
theorem withLen_map (c : List (List Nat)) : ((c.map sD).filter fun _ => true).map withLen = c.map lenD := by
  rw [filter_yes, List.map_map]
  refine List.map_congr_left fun x _ => ?_
  show D.tup [.int ((x.map nD).length : Int), .tup (x.map nD)] = D.tup [.int (x.length : Int), .tup (x.map nD)]
  rw [List.length_map]
def partC (R : Ma.Routine) (F : Ma.Found) (i : Nat) : List (List Nat) := (F.take i).flatMap fun x => [0, 1, 2, 3].flatMap (Ma.cand (Ma.sem R) x)
theorem cand_len (look : Ma.Look) (x : Nat × List Nat) (s : Nat) : (Ma.cand look x s).length ≤ 1 := by
  unfold Ma.cand
  split <;> simp
theorem cand4_len (look : Ma.Look) (x : Nat × List Nat) (l : List Nat) : (l.flatMap (Ma.cand look x)).length ≤ l.length := by
  induction l with
  | nil => exact Nat.le_refl _
  | cons s l ih =>
    rw [List.flatMap_cons, List.length_append, List.length_cons]
    have := cand_len look x s
    omega
theorem partC_len (R : Ma.Routine) (F : Ma.Found) (i : Nat) : (partC R F i).length ≤ 4 * i := by
  unfold partC
  have gen : ∀ l : Ma.Found, (l.flatMap fun x => [0, 1, 2, 3].flatMap (Ma.cand (Ma.sem R) x)).length ≤ 4 * l.length := by
    intro l
    induction l with
    | nil => exact Nat.le_refl _
    | cons x l ih =>
      rw [List.flatMap_cons, List.length_append, List.length_cons]
      have := cand4_len (Ma.sem R) x [0, 1, 2, 3]
      simp only [List.length_cons, List.length_nil] at this
      omega
  have := gen (F.take i)
  have h2 : (F.take i).length ≤ i := List.length_take_le _ _
  omega
def fLeast : List D → (D → Prop) → Prop := fun ds Pd => ∃ R : Ma.Routine, Ma.VR R ∧ ds = [rD R] ∧ Pd = fun x => x = optD (Ma.leastM (Ma.sem R))
abbrev nLeast : List Str := ["routine", "posts", "ends", "found", "post", "sort", "stack"]
theorem scLeast : FnScope nLeast ["routine"] (defScope (topS 26)) := ⟨rfl, rfl, rfl, by decide +kernel, rfl, by decide +kernel, by decide +kernel⟩
theorem ok_least (T : Tx K mg) (a : At K mg "least_endless" 26 ["routine"]) (C1 : Cal P w K mg base "led_posts" 3 ["routine"] fLed) : Cal P w K mg base "least_endless" 4 ["routine"] fLeast := by
  obtain ⟨f1, fd1, G1, m1, k1, b1⟩ := C1
  obtain ⟨tS, hS⟩ := T.SORTS
  obtain ⟨tN, hN⟩ := T.NEVER
  refine calD a scLeast (fun ds Pd h => by obtain ⟨R, _, rfl, _⟩ := h; rfl) fun f cdv A outer s H E hr => ?_
  have hu := hu_of hr
  have hu11 : (A.deeper (envOfC "least_endless" (defScope (topS 26)) s.heap.objs.size f cdv)).units + 11 < cLine := by have := hr.un; omega
  refine ⟨_, pss_cons (ps_asg (pe_call G1 hr (by rfl) m1 k1 b1 .nil pass0 (pa_cons (pv 0) pa_nil)) (pg_tup rfl (pgs_cons (pg_name (i := 1) scLeast.nd rfl (.inl rfl)) (pgs_cons (pg_name (i := 2) scLeast.nd rfl (.inl rfl)) pgs_nil))))
    (pss_cons (ps_set (i := 3) scLeast.nd rfl (.inl rfl) (pe_lst pa_nil))
    (pss_cons (ps_lock (ps_for PassesOwn.never rfl (pi_keys (pv 1)) (pg_name (i := 4) scLeast.nd rfl (.inl rfl))
      (pss_one (ps_for PassesOwn.never rfl (pi_range1 (by rfl) T.range (pa_cons (pe_op op_add (pe_glob (v := .int 3) (by rfl) hS ⟨_, rfl⟩) pe_int) pa_nil)) (pg_name (i := 5) scLeast.nd rfl (.inl rfl))
        (pss_one (ps_if (pt_cmpR op_eq (pe_ix ix_tup (pe_dget hu (pv 2) (pe_tup (pa_cons (pv 4) (pa_cons (pv 5) pa_nil))) (fun _ _ => rfl)) pe_int (fun _ _ => rfl)) (pe_glob (v := .str "never") (by rfl) hN ⟨_, rfl⟩) (nomark _))
          (pss_one (ps_set (i := 3) scLeast.nd rfl (.inl rfl) (pe_op op_cat (pv 3) (pe_lst (pa_cons (pe_op op_catA (pe_dget hu (pv 1) (pv 4) (fun _ _ => rfl)) (pe_ifExp (pt_cmpR op_lt (pv 5) (pe_glob (v := .int 3) (by rfl) hS ⟨_, rfl⟩) (nomark _)) (pe_tup (pa_cons (pv 5) pa_nil)) (pe_tup pa_nil))) pa_nil))))) pss_nil))))))
    (pss_one (ps_ret (pe_ifExp (pt_cmpR (op_neD hr.units) (pv 3) (pe_lst pa_nil) (nomark _))
      (pe_ix ix_tup (pe_ix ix_list (pe_callB (cr_sortD hu11) (by rfl) T.sorted (by decide +kernel) (pa_cons (pe_lc (own := [("stack", 6)]) (g := gName 6) rfl scLeast.nd (pi_list (pv 3)) (blkOk_by (own := [("stack", 6)]) (N := nLeast) (sc := defScope (topS 26)) (by decide +kernel))
        (fun _ _ _ _ _ => pg_name (i := 6) scLeast.nd rfl (Or.inl rfl)) (fun _ _ _ _ _ => pts_nil)
        (fun _ _ _ _ _ => pe_tup (pa_cons (pe_callB (lenK K) (by rfl) T.len PySem.boot_len (pa_cons (pv 6) pa_nil)) (pa_cons (pv 6) pa_nil)))) pa_nil)) pe_int (fun _ _ => rfl)) pe_int (fun _ _ => rfl))
      pe_non))))), fun M ds Pd h => ?_⟩
  obtain ⟨R, v, rfl, rfl⟩ := h
  have gd := Ma.sem_good v
  have bF := Ma.led_ok gd v.lo v.hi
  refine wd_seq (wd_asgGP (ed_call (ea_cons (ed_var (d := rD R) rfl) ea_nil) ⟨R, v, rfl, rfl⟩) fun d hd => ?_)
  obtain ⟨ks, rfl, g, hall⟩ := hd
  refine ⟨_, gd_tup (gs_cons gd_name (gs_cons gd_name gs_nil)) rfl, ?_⟩
  refine wd_seq (wd_asg (ed_lst ea_nil (Nat.le_of_ble_eq_true rfl)) ?_)
  generalize hF : Ma.ledM (Ma.sem R) = F at bF hall
  have hFl : F.length ≤ 6 := by
    have := Ma.len_le_of_sub bF.nd (m := List.range R.length) fun p hp => by
      obtain ⟨x, hx, rfl⟩ := List.mem_map.mp hp
      exact List.mem_range.mpr (bF.lt x hx)
    have := v.hi
    simp at *
    omega
  have hkl : (F.map fun x => fKey x.1).length = F.length := List.length_map ..
  refine wd_seq (wd_keys (i0 := 1) (ks := F.map fun x => fKey x.1) (ds := F.map fun x => sD x.2) rfl (noKs_of (noDs_map _ F fun x _ => sD_no _)) (fun i d hi hd => ?_)
    (fun i τ => ∃ x4 x5 x6, τ = [some (rD R), some (.dkz (F.map fun x => fKey x.1) (F.map fun x => sD x.2)), some (endsD R ks), some (.lst ((partC R F i).map sD)), x4, x5, x6] ∧ okX x4 ∧ okX x5 ∧ okX x6) ⟨none, none, none, rfl, (fun d h => by cases h), (fun d h => by cases h), (fun d h => by cases h)⟩ (fun i k τ hk hI => ?_) (fun i τ hI => ?_) (fun τ hI => ?_))
  · match i, hi, hd with
    | 0, _, hd => cases hd; exact noK_of (rD_no R)
    | 1, hi, _ => exact absurd rfl hi
    | 2, _, hd => cases hd; exact ends_noK R ks
    | 3, _, hd => cases hd; unfold noK noKs; rfl
    | 4, _, hd => cases hd
    | 5, _, hd => cases hd
    | 6, _, hd => cases hd
    | n + 7, _, hd => cases hd
  · obtain ⟨x4, x5, x6, rfl, o4, o5, o6⟩ := hI
    rw [List.getElem?_map] at hk
    cases hy : F[i]? with
    | none => rw [hy] at hk; cases hk
    | some y =>
      rw [hy] at hk
      cases hk
      have hil := (List.getElem?_eq_some_iff.mp hy).1
      have hym := List.mem_of_getElem? hy
      have hly : Ma.lkp F y.1 = some y.2 := Ma.lkp_of bF.nd hym
      have hyl := bF.len y hym
      have hv6 := v.hi
      have hpl := partC_len R F i
      refine wd_range (n := 4) (by decide) (ea_cons (ed_is (ed_op ed_int ed_int rv_add) rfl) ea_nil)
        (fun s τ => ∃ x5 x6, τ = [some (rD R), some (.dkz (F.map fun x => fKey x.1) (F.map fun x => sD x.2)), some (endsD R ks), some (.lst ((partC R F i ++ ([0, 1, 2, 3].take s).flatMap (Ma.cand (Ma.sem R) y)).map sD)), some (nD y.1), x5, x6] ∧ okX x5 ∧ okX x6) ⟨x5, x6, ?_, o5, o6⟩ (fun s τ hs4 hJ => ?_) (fun τ hJ => ?_)
      · show [some (rD R), some (D.dkz (F.map fun x => fKey x.1) (F.map fun x => sD x.2)), some (endsD R ks), some (D.lst ((partC R F i).map sD)), some (nD y.1), x5, x6] = _
        rw [show ([0, 1, 2, 3].take 0).flatMap (Ma.cand (Ma.sem R) y) = [] from rfl, List.append_nil]
      · obtain ⟨x5, x6, rfl, o5, o6⟩ := hJ
        have oS : okX (some (.int (s : Int))) := fun d h => by cases h; unfold noK; rfl
        have htake : [0, 1, 2, 3].take (s + 1) = [0, 1, 2, 3].take s ++ [s] := by
          have : s = 0 ∨ s = 1 ∨ s = 2 ∨ s = 3 := by omega
          rcases this with rfl | rfl | rfl | rfl <;> rfl
        have hin : (y.1, s) ∈ ks := hall y hym s hs4
        have eget : EvD K M (tOp (rIxT K) (tDGet (tVar 2) (tTup (tCons (tVar 4) (tCons (tVar 5) tNil)))) (tC (.int 0))) _ _ := ed_op (ed_dgetT (k := kP (y.1, s)) (d := entD (Ma.sem R (y.1, s))) (ed_var (d := endsD R ks) (i := 2) (τ := [some (rD R), some (.dkz (F.map fun x => fKey x.1) (F.map fun x => sD x.2)), some (endsD R ks), some (.lst ((partC R F i ++ ([0, 1, 2, 3].take s).flatMap (Ma.cand (Ma.sem R) y)).map sD)), some (nD y.1), some (.int (s : Int)), x6]) rfl) (ed_tup (ea_cons (ed_var (i := 4) (d := nD y.1) rfl) (ea_cons (ed_var (i := 5) (d := .int (s : Int)) rfl) ea_nil)) (Nat.le_of_ble_eq_true rfl)) (by rw [look_map, if_pos hin])) ed_int (rv_end (K := K) (M := M) (Ma.sem R (y.1, s)))
        have hlen2 := cand4_len (Ma.sem R) y ([0, 1, 2, 3].take s)
        have hlen3 : ([0, 1, 2, 3].take s).length ≤ 4 := by rw [List.length_take]; simp; omega
        cases hsem : Ma.sem R (y.1, s) with
        | none =>
          rw [hsem] at eget
          have hc : Ma.cand (Ma.sem R) y s = [if s < 3 then y.2 ++ [s] else y.2] := by
            unfold Ma.cand
            rw [hsem]; rfl
          have ewd : ∀ M, EvD K M (tOp (rCatA K) (tDGet (tVar 1) (tVar 4)) (tIf (tTest (tOp (rI0 fun i j => .bl (decide (i < j))) (tVar 5) (tC (.int 3)))) (tTup (tCons (tVar 5) tNil)) (tTup tNil))) [some (rD R), some (.dkz (F.map fun x => fKey x.1) (F.map fun x => sD x.2)), some (endsD R ks), some (.lst ((partC R F i ++ ([0, 1, 2, 3].take s).flatMap (Ma.cand (Ma.sem R) y)).map sD)), some (nD y.1), some (.int (s : Int)), x6] (sD (if s < 3 then y.2 ++ [s] else y.2)) := fun M => by
            refine ed_is (ed_op (ed_dgetZ (k := fKey y.1) (d := sD y.2) (ed_var (i := 1) (d := .dkz (F.map fun x => fKey x.1) (F.map fun x => sD x.2)) rfl) (ed_var (i := 4) (d := nD y.1) rfl) (by rw [look_found, hly]; rfl))
              (ed_if (d := .tup (if s < 3 then [nD s] else [])) (b := decide ((s : Int) < 3)) (et_test (ed_op (ed_var (i := 5) (d := .int (s : Int)) rfl) ed_int rv_lt)) (fun h => ?_) (fun h => ?_)) (rv_cat ?_)) ?_
            · have : s < 3 := by have := of_decide_eq_true h; omega
              rw [if_pos this]
              exact ed_tup (ea_cons (ed_var (i := 5) (d := .int (s : Int)) rfl) ea_nil) (Nat.le_of_ble_eq_true rfl)
            · have : ¬ s < 3 := by have := of_decide_eq_false h; omega
              rw [if_neg this]
              exact ed_tup ea_nil (Nat.le_of_ble_eq_true rfl)
            · rw [List.length_map]
              split <;> simp <;> omega
            · unfold sD
              by_cases c : s < 3
              · rw [if_pos c, if_pos c, List.map_append]; rfl
              · rw [if_neg c, if_neg c, List.append_nil]
          refine wd_if (b := true) (et_is (et_test (ed_op eget ed_str rv_eqS)) (by decide)) (fun _ => wd_asg (ed_op (ed_var (d := .lst ((partC R F i ++ ([0, 1, 2, 3].take s).flatMap (Ma.cand (Ma.sem R) y)).map sD)) rfl) (ed_lst (ea_cons (ewd M) ea_nil) (Nat.le_of_ble_eq_true rfl)) (rv_catL ?_)) ⟨some (.int (s : Int)), x6, ?_, oS, o6⟩) (fun h => nomatch h)
          · rw [List.length_map, List.length_append]
            show _ + 1 ≤ 100000
            omega
          · rw [htake, List.flatMap_append, ← List.append_assoc, List.map_append (l₁ := partC R F i ++ ([0, 1, 2, 3].take s).flatMap (Ma.cand (Ma.sem R) y))]
            have : [s].flatMap (Ma.cand (Ma.sem R) y) = [if s < 3 then y.2 ++ [s] else y.2] := by
              rw [List.flatMap_cons, hc]; rfl
            rw [this]
            rfl
        | some e =>
          have hc : [s].flatMap (Ma.cand (Ma.sem R) y) = [] := by
            rw [List.flatMap_cons]
            unfold Ma.cand
            rw [hsem]; rfl
          have hnx : ∃ x5' x6', ([some (rD R), some (.dkz (F.map fun x => fKey x.1) (F.map fun x => sD x.2)), some (endsD R ks), some (.lst ((partC R F i ++ ([0, 1, 2, 3].take s).flatMap (Ma.cand (Ma.sem R) y)).map sD)), some (nD y.1), some (.int (s : Int)), x6] : Tau) = [some (rD R), some (.dkz (F.map fun x => fKey x.1) (F.map fun x => sD x.2)), some (endsD R ks), some (.lst ((partC R F i ++ ([0, 1, 2, 3].take (s + 1)).flatMap (Ma.cand (Ma.sem R) y)).map sD)), some (nD y.1), x5', x6'] ∧ okX x5' ∧ okX x6' := by
            rw [htake, List.flatMap_append, hc, List.append_nil]
            exact ⟨_, _, rfl, oS, o6⟩
          rw [hsem] at eget
          obtain ⟨e1, e2⟩ := e
          cases e1 with
          | none => exact wd_if (b := false) (et_test (ed_op eget ed_str (rv_eqIS (i := -1)))) (fun h => nomatch h) (fun _ => wd_next hnx)
          | some h => exact wd_if (b := false) (et_test (ed_op eget ed_str (rv_eqIS (i := (h : Int))))) (fun h => nomatch h) (fun _ => wd_next hnx)
      · obtain ⟨x5, x6, rfl, o5, o6⟩ := hJ
        refine ⟨some (nD y.1), x5, x6, ?_, (fun d h => by cases h; unfold nD noK; rfl), o5, o6⟩
        have : partC R F (i + 1) = partC R F i ++ ([0, 1, 2, 3].take 4).flatMap (Ma.cand (Ma.sem R) y) := by
          unfold partC
          rw [List.take_add_one, hy, List.flatMap_append]
          rw [show (some y).toList = [y] from rfl, List.flatMap_cons, List.flatMap_nil, List.append_nil]
          rfl
        rw [this]
  · obtain ⟨x4, x5, x6, rfl, _⟩ := hI
    rfl
  · obtain ⟨x4, x5, x6, rfl, o4, o5, o6⟩ := hI
    rw [hkl]
    have hfull : partC R F F.length = Ma.cands (Ma.sem R) F := by
      unfold partC Ma.cands
      rw [List.take_length]
    rw [hfull]
    have hlt : ∀ x ∈ Ma.cands (Ma.sem R) F, ∀ s ∈ x, s < 4 := fun x hx s hs => Nat.lt_succ_of_lt ((Ma.cands_lt bF hx).2 s hs)
    have hlst : Ma.leastM (Ma.sem R) = Ma.minL (Ma.cands (Ma.sem R) F) := by
      unfold Ma.leastM
      rw [hF]
    have hclen : (Ma.cands (Ma.sem R) F).length ≤ 4 * F.length := by rw [← hfull]; exact partC_len R F F.length
    rw [hlst]
    generalize Ma.cands (Ma.sem R) F = c at hlt hclen
    refine ⟨fun i d hi hd => ?_, ?_⟩
    · match i, hi, hd with
      | 0, _, hd => cases hd; exact noK_of (rD_no R)
      | 1, hi, _ => exact absurd rfl hi
      | 2, _, hd => cases hd; exact ends_noK R ks
      | 3, _, hd => cases hd; exact noK_of (stacks_no c)
      | 4, _, hd => exact o4 d (Option.some.inj hd)
      | 5, _, hd => exact o5 d (Option.some.inj hd)
      | 6, _, hd => exact o6 d (Option.some.inj hd)
      | n + 7, _, hd => cases hd
    · refine wd_ret (ed_if (b := !decide (c = [])) (et_is (et_test (ed_op (ed_var (i := 3) (d := .lst (c.map sD)) rfl) (ed_lst ea_nil (Nat.le_of_ble_eq_true rfl)) (rv_neD (stacks_no c) rfl (stacks_shaped c) (by decide)))) (by rw [stacks_nil])) (d := optD (Ma.minL c)) (fun hb => ?_) (fun hb => ?_)) rfl
      · cases hm : Ma.minL c with
        | none =>
          have := Ma.minL_none hm
          rw [this] at hb
          cases hb
        | some T =>
          have hfirst := sorted_first hlt hm
          refine ed_op (ed_op (ed_cb (ea_cons (ed_is (ed_lcL (fun _ => true) withLen (ed_var (i := 3) (d := .lst (c.map sD)) rfl) (by rw [List.length_map]; omega) (fun x _ M => et_yes) (fun x hx _ M => ?_)) (congrArg D.lst (withLen_map c))) ea_nil) (rc_sortD ?_ ?_ ?_ ?_)) ed_int (rv_ixL (L2.atI_nat (j := 0) hfirst))) ed_int (rv_ixT rfl)
          · obtain ⟨y, _, rfl⟩ := List.mem_map.mp hx
            exact ed_tup (ea_cons (ed_cb (ea_cons (ed_var (d := sD y) rfl) ea_nil) rc_lenT) (ea_cons (ed_var (d := sD y) rfl) ea_nil)) (Nat.le_of_ble_eq_true rfl)
          · intro d hd
            obtain ⟨y, _, rfl⟩ := List.mem_map.mp hd
            exact len_no y
          · intro d hd d' hd'
            rw [List.map_map] at hd hd'
            obtain ⟨y, _, rfl⟩ := List.mem_map.mp hd
            obtain ⟨z, _, rfl⟩ := List.mem_map.mp hd'
            exact len_alike y z
          · left
            intro d hd
            rw [List.map_map] at hd
            obtain ⟨y, _, rfl⟩ := List.mem_map.mp hd
            refine ⟨toP (.int (y.length : Int)), [toP (sD y)], ?_⟩
            show toP (lenD y) = _
            rfl
          · intro d hd
            obtain ⟨y, _, rfl⟩ := List.mem_map.mp hd
            exact len_depth y
      · have : c = [] := by
          by_cases e : c = []
          · exact e
          · rw [decide_eq_false e] at hb; cases hb
        rw [this]
        exact ed_non
def fEndless : List D → (D → Prop) → Prop := fLeast
theorem scEndless : FnScope ["routine"] ["routine"] (defScope (topS 29)) := ⟨rfl, rfl, rfl, by decide +kernel, rfl, by decide +kernel, by decide +kernel⟩
theorem ok_endless (a : At K mg "endless_stack" 29 ["routine"]) (C1 : Cal P w K mg base "need_routine" 5 ["value"] fNeedRoutine) (C2 : Cal P w K mg base "least_endless" 4 ["routine"] fLeast) : Cal P w K mg base "endless_stack" 6 ["routine"] fLeast := by
  obtain ⟨f1, fd1, G1, m1, k1, b1⟩ := C1
  obtain ⟨f2, fd2, G2, m2, k2, b2⟩ := C2
  refine calD a scEndless (fun ds Pd h => by obtain ⟨R, _, rfl, _⟩ := h; rfl) fun f cdv A outer s H E hr => ?_
  refine ⟨_, pss_cons (ps_expr (pe_call G1 hr (by rfl) m1 k1 b1 .nil pass0 (pa_cons (pv 0) pa_nil))) (pss_one (ps_ret (pe_call G2 (hr.mono (by decide)) (by rfl) m2 k2 b2 .nil pass0 (pa_cons (pv 0) pa_nil)))), fun M ds Pd h => ?_⟩
  obtain ⟨R, v, rfl, rfl⟩ := h
  exact wd_seq (wd_drop (ed_callD (ea_cons (ed_var rfl) ea_nil) ⟨R, rfl, v, rfl⟩) (wd_ret (ed_callD (ea_cons (ed_var rfl) ea_nil) ⟨R, v, rfl, rfl⟩) rfl))
theorem scToldOn : FnScope ["routine", "stack", "found"] ["routine", "stack"] (defScope (topS 27)) := ⟨rfl, rfl, rfl, by decide +kernel, rfl, by decide +kernel, by decide +kernel⟩
theorem ok_toldOn (a : At K mg "told_on" 27 ["routine", "stack"]) (C1 : Cal P w K mg base "need_routine" 5 ["value"] fNeedRoutine) (C2 : Cal P w K mg base "need_stack" 3 ["value"] fNeedStack) (C3 : Cal P w K mg base "told_run" 3 ["routine", "stack"] fToldRun) (C4 : Cal P w K mg base "need_few" 1 ["marks"] fFew) : Cal P w K mg base "told_on" 6 ["routine", "stack"] fToldOn := by
  obtain ⟨f1, fd1, G1, m1, k1, b1⟩ := C1
  obtain ⟨f2, fd2, G2, m2, k2, b2⟩ := C2
  obtain ⟨f3, fd3, G3, m3, k3, b3⟩ := C3
  obtain ⟨f4, fd4, G4, m4, k4, b4⟩ := C4
  refine calD a scToldOn (fun ds Pd h => by obtain ⟨R, l, _, _, _, _, rfl, _⟩ := h; rfl) fun f cdv A outer s H E hr => ?_
  refine ⟨_, pss_cons (ps_expr (pe_call G1 hr (by rfl) m1 k1 b1 .nil pass0 (pa_cons (pv 0) pa_nil))) (pss_cons (ps_expr (pe_call G2 (hr.mono (by decide)) (by rfl) m2 k2 b2 .nil pass0 (pa_cons (pv 1) pa_nil)))
    (pss_cons (ps_set (i := 2) scToldOn.nd rfl (.inl rfl) (pe_call G3 (hr.mono (by decide)) (by rfl) m3 k3 b3 .nil pass0 (pa_cons (pv 0) (pa_cons (pv 1) pa_nil))))
    (pss_cons (ps_if (pt_cmpR op_eq (pe_ix ix_tup (pv 2) pe_int (fun _ _ => rfl)) pe_str (nomark _)) (pss_one (ps_expr (pe_call G4 (hr.mono (by decide)) (by rfl) m4 k4 b4 .nil pass0 (pa_cons (pe_ix ix_tup (pv 2) pe_int (fun _ _ => rfl)) pa_nil)))) pss_nil)
    (pss_one (ps_ret (pv 2)))))), fun M ds Pd h => ?_⟩
  obtain ⟨R, l, v, h1, h2, h3, rfl, rfl⟩ := h
  refine wd_seq (wd_drop (ed_callD (ea_cons (ed_var (d := rD R) rfl) ea_nil) ⟨R, rfl, v, rfl⟩) ?_)
  refine wd_seq (wd_drop (ed_callD (ea_cons (ed_var (d := sD l) rfl) ea_nil) ⟨l, rfl, h1, h2, rfl⟩) ?_)
  refine wd_seq (wd_asg (ed_callD (ea_cons (ed_var (d := rD R) rfl) (ea_cons (ed_var (d := sD l) rfl) ea_nil)) ⟨R, l, v, h1, h2, rfl, rfl⟩) ?_)
  cases ht : Ma.toldOn (Ma.sem R) l with
  | none => exact wd_seq (wd_if (b := false) (et_is (et_test (ed_op (ed_op (ed_var (i := 2) (d := .tup [.str "never"]) rfl) ed_int (rv_ixT rfl)) ed_str rv_eqS)) (by decide)) (fun h => nomatch h) (fun _ => wd_next (wd_ret (ed_var rfl) rfl)))
  | some r => exact wd_seq (wd_if (b := true) (et_is (et_test (ed_op (ed_op (ed_var (i := 2) (d := .tup [.str "rest", sD r.1, sD r.2.1, .int (r.2.2 : Int)]) rfl) ed_int (rv_ixT rfl)) ed_str rv_eqS)) (by decide)) (fun _ => wd_drop (ed_callD (ea_cons (ed_op (ed_var (i := 2) (d := .tup [.str "rest", sD r.1, sD r.2.1, .int (r.2.2 : Int)]) rfl) ed_int (rv_ixT (d := sD r.1) rfl)) ea_nil) ⟨r.1, rfl, h3 r ht, rfl⟩) (wd_ret (ed_var rfl) rfl)) (fun h => nomatch h))
end
end Sp
/-! Data with an effect: a place that is written, by a state S. -/
namespace PD
open PySem PySem.Spec PyProof.Rows L2 PDX
/-- what is said of the written place stands through what is added -/
class Stab {S : Type} (J : S → Hp → Prop) : Prop where
  st : ∀ s H H', Le0 H H' → J s H → J s H'
section
variable {K : PySem.W.Frag} {M : Addr → Prop} {S : Type} {J : S → Hp → Prop}
def EvC (K : PySem.W.Frag) (M : Addr → Prop) (J : S → Hp → Prop) (te : TE) (s : S) (τ : Tau) (P : S → D → Prop) : Prop := ∀ σ H, Rel K M H σ τ → J s H → ∀ Q : VK, (∀ v H' s' d, Le M H H' → (∀ a, M a → H' a ≠ none) → J s' H' → Rp K M H' d v → P s' d → Q v H') → te σ H Q
def EtC (K : PySem.W.Frag) (M : Addr → Prop) (J : S → Hp → Prop) (tt : TT) (s : S) (τ : Tau) (P : S → Bool → Prop) : Prop := ∀ σ H, Rel K M H σ τ → J s H → ∀ Q : Bool → Hp → Prop, (∀ b H' s', Le M H H' → (∀ a, M a → H' a ≠ none) → J s' H' → P s' b → Q b H') → tt σ H Q
def EaC (K : PySem.W.Frag) (M : Addr → Prop) (J : S → Hp → Prop) (ta : TA) (s : S) (τ : Tau) (P : S → List D → Prop) : Prop := ∀ σ H, Rel K M H σ τ → J s H → ∀ Q : List V → Hp → Prop, (∀ vs H' s' ds, Le M H H' → (∀ a, M a → H' a ≠ none) → J s' H' → RpL K M H' ds vs → P s' ds → Q vs H') → ta σ H Q
def WC (K : PySem.W.Frag) (M : Addr → Prop) (J : S → Hp → Prop) (ts : TS) (nx : S → Tau → Prop) (rt : S → D → Prop) (s : S) (τ : Tau) : Prop := ∀ (En : Ends) σ H, Rel K M H σ τ → J s H →
  (∀ σ' H' τ' s', Le M H H' → Rel K M H' σ' τ' → J s' H' → nx s' τ' → En.nx σ' H') → (∀ v H' d s', Le M H H' → Rp K M H' d v → J s' H' → rt s' d → En.rt v H') → ts En σ H
theorem Rel.le {σ : L2.St} {τ : Tau} {H H' : Hp} (r : Rel K M H σ τ) (e : Le M H H') (tr : ∀ a, M a → H' a ≠ none) : Rel K M H' σ τ :=
  ⟨tr, r.len, fun i d q => by
    obtain ⟨v, h1, h2⟩ := r.at_ i d q
    exact ⟨v, h1, h2.mono e⟩⟩
variable [Stab J] {te ta tb : TE} {tt tu : TT} {tl : TA} {s : S} {τ τ' : Tau} {d e f : D} {ds : List D} {P P' : S → D → Prop} {nx nx' : S → Tau → Prop} {rt rt' : S → D → Prop}
theorem ec_pure (h : EvD K M te τ d) : EvC K M J te s τ (fun s' d' => s' = s ∧ d' = d) := fun σ H r j Q q => h σ H r Q fun v H' l p => q v H' s d l.of0 (r.mono l).tr (Stab.st s H H' l j) p ⟨rfl, rfl⟩
theorem ec_pureP {Pd : D → Prop} (h : EvP K M te τ Pd) : EvC K M J te s τ (fun s' d' => s' = s ∧ Pd d') := fun σ H r j Q q => h σ H r Q fun v H' d l p hp => q v H' s d l.of0 (r.mono l).tr (Stab.st s H H' l j) p ⟨rfl, hp⟩
omit [Stab J] in
theorem ec_mono (h : EvC K M J te s τ P) (k : ∀ s d, P s d → P' s d) : EvC K M J te s τ P' := fun σ H r j Q q => h σ H r j Q fun v H' s' d l tr j' p hp => q v H' s' d l tr j' p (k _ _ hp)
theorem etc_pure {b : Bool} (h : EtD K M tt τ b) : EtC K M J tt s τ (fun s' b' => s' = s ∧ b' = b) := fun σ H r j Q q => h σ H r Q fun H' l => q b H' s l.of0 (r.mono l).tr (Stab.st s H H' l j) ⟨rfl, rfl⟩
omit [Stab J] in
theorem etc_test {Pb : S → Bool → Prop} (h : EvC K M J te s τ (fun s' d => ∃ b, d = .bl b ∧ Pb s' b)) : EtC K M J (tTest te) s τ Pb := fun σ H r j Q q => h σ H r j _ fun v H' s' d l tr j' p ⟨b, e, hb⟩ => by
  subst e
  exact ⟨b, p.bl_inv, q b H' s' l tr j' hb⟩
omit [Stab J] in
theorem etc_B {Pb : S → Bool → Prop} (h : EvC K M J te s τ (fun s' d => ∃ b, d = .bl b ∧ Pb s' b)) : EtC K M J (tB te) s τ Pb := fun σ H r j Q q => h σ H r j _ fun v H' s' d l tr j' p ⟨b, e, hb⟩ => by
  subst e
  exact ⟨b, p.bl_inv, q b H' s' l tr j' hb⟩
omit [Stab J] in
theorem etc_not {Pb : S → Bool → Prop} (h : EtC K M J tt s τ (fun s' b => Pb s' (!b))) : EtC K M J (tNot tt) s τ Pb := fun σ H r j Q q => h σ H r j _ fun b H' s' l tr j' hb => q (!b) H' s' l tr j' hb
omit [Stab J] in
theorem etc_or {Pa Pb : S → Bool → Prop} (h : EtC K M J tt s τ Pa) (h1 : ∀ s', Pa s' true → Pb s' true) (h2 : ∀ s', Pa s' false → EtC K M J tu s' τ Pb) : EtC K M J (tOr tt tu) s τ Pb := fun σ H r j Q q => h σ H r j _ fun b H' s' l tr j' hb => by
  cases b with
  | true =>
    show Q true H'
    exact q true H' s' l tr j' (h1 s' hb)
  | false =>
    show tu σ H' Q
    exact h2 s' hb σ H' (r.le l tr) j' Q fun b2 H2 s2 l2 tr2 j2 hb2 => q b2 H2 s2 (l.trans l2) tr2 j2 hb2
omit [Stab J] in
theorem ec_op {r : R2} {Pa : S → D → Prop} (ha : EvC K M J ta s τ Pa) (hb : ∀ s1 d1, Pa s1 d1 → EvC K M J tb s1 τ (fun s2 d2 => ∃ f, RvD K M r d1 d2 f ∧ ∀ H H', Le0 H H' → J s2 H → J s2 H' ∧ P s2 f)) : EvC K M J (tOp r ta tb) s τ P := fun σ H rl j Q q =>
  ha σ H rl j _ fun x H1 s1 d1 l1 tr1 j1 p1 hp1 => hb s1 d1 hp1 σ H1 (rl.le l1 tr1) j1 _ fun y H2 s2 d2 l2 tr2 j2 p2 ⟨f, hr, hf⟩ => hr x y H2 tr2 (p1.mono l2) p2 _ fun v H3 l3 p3 =>
    q v H3 s2 f ((l1.trans l2).trans l3.of0) (fun a m => l3.there (tr2 a m)) (hf H2 H3 l3 j2).1 p3 (hf H2 H3 l3 j2).2
theorem ec_op' {r : R2} {Pa : S → D → Prop} (ha : EvC K M J ta s τ Pa) (hb : ∀ s1 d1, Pa s1 d1 → EvC K M J tb s1 τ (fun s2 d2 => ∃ f, RvD K M r d1 d2 f ∧ P s2 f)) : EvC K M J (tOp r ta tb) s τ P :=
  ec_op ha fun s1 d1 h => ec_mono (hb s1 d1 h) fun s2 d2 ⟨f, h1, h2⟩ => ⟨f, h1, fun H H' l j => ⟨Stab.st s2 H H' l j, h2⟩⟩
omit [Stab J] in
theorem ec_if {Pb : S → Bool → Prop} (h : EtC K M J tt s τ Pb) (h1 : ∀ s', Pb s' true → EvC K M J ta s' τ P) (h2 : ∀ s', Pb s' false → EvC K M J tb s' τ P) : EvC K M J (tIf tt ta tb) s τ P := fun σ H r j Q q => h σ H r j _ fun b H' s' l tr j' hb => by
  cases b with
  | true =>
    show ta σ H' Q
    exact h1 s' hb σ H' (r.le l tr) j' Q fun v H2 s2 d l2 tr2 j2 p hp => q v H2 s2 d (l.trans l2) tr2 j2 p hp
  | false =>
    show tb σ H' Q
    exact h2 s' hb σ H' (r.le l tr) j' Q fun v H2 s2 d l2 tr2 j2 p hp => q v H2 s2 d (l.trans l2) tr2 j2 p hp
omit [Stab J] in
theorem eac_nil {Pl : S → List D → Prop} (h : Pl s []) : EaC K M J tNil s τ Pl := fun σ H r j Q q => q [] H s [] (Le.refl _ _) r.tr j RpL.nil h
omit [Stab J] in
theorem eac_cons {Pa : S → D → Prop} {Pl : S → List D → Prop} (h : EvC K M J te s τ Pa) (t : ∀ s1 d1, Pa s1 d1 → EaC K M J tl s1 τ (fun s2 ds => Pl s2 (d1 :: ds))) : EaC K M J (tCons te tl) s τ Pl := fun σ H r j Q q =>
  h σ H r j _ fun v H1 s1 d1 l1 tr1 j1 p1 hp1 => t s1 d1 hp1 σ H1 (r.le l1 tr1) j1 _ fun vs H2 s2 ds l2 tr2 j2 p2 hp2 => q (v :: vs) H2 s2 (d1 :: ds) (l1.trans l2) tr2 j2 (RpL.cons (p1.mono l2) p2) hp2
theorem ec_tup (h : EaC K M J tl s τ (fun s' ds => ds.length ≤ 100000 ∧ P s' (.tup ds))) : EvC K M J (tTup tl) s τ P := fun σ H r j Q q =>
  h σ H r j _ fun vs H1 s1 ds l1 tr1 j1 p1 ⟨hz, hp⟩ => ⟨by rw [p1.len]; exact Nat.le_trans hz (by decide), fun p hn =>
    q (.ref p) _ s1 (.tup ds) (l1.trans (Le.new hn).of0) (fun a m => (Le.new hn).there (tr1 a m)) (Stab.st s1 _ _ (Le.new hn) j1) (Rp.tup (not_M tr1 hn) upd_same (p1.mono (Le.new hn).of0)) hp⟩
omit [Stab J] in
theorem ec_cb {r : List V → Hp → VK → Prop} (h : EaC K M J tl s τ (fun s' ds => ∃ f, RcD K M r ds f ∧ (∀ H H', Le0 H H' → J s' H → J s' H') ∧ P s' f)) : EvC K M J (tCB r tl) s τ P := fun σ H rl j Q q =>
  h σ H rl j _ fun vs H1 s1 ds l1 tr1 j1 p1 ⟨f, hr, hs, hp⟩ => hr vs H1 tr1 p1 _ fun v H2 l2 p2 => q v H2 s1 f (l1.trans l2.of0) (fun a m => l2.there (tr1 a m)) (hs H1 H2 l2 j1) p2 hp
/-- a pure def called -/
theorem ec_call {F : List D → (D → Prop) → Prop} {E : XK} (h : EaC K M J tl s τ (fun s' ds => ∃ Pd, F ds Pd ∧ ∀ d, Pd d → P s' d)) : EvC K M J (tCall (spD K F) [] E tl) s τ P := fun σ H r j Q q =>
  h σ H r j _ fun vs H1 s1 ds l1 tr1 j1 p1 ⟨Pd, hf, hp⟩ => ⟨M, ds, Pd, tr1, by rw [List.append_nil]; exact p1, hf, fun v H' d l p hd => q v H' s1 d (l1.trans l.of0) (fun a m => l.there (tr1 a m)) (Stab.st s1 _ _ l j1) p (hp d hd)⟩
/-! ### statements -/
omit [Stab J] in
theorem wc_seq {t1 t2 : TS} (h : WC K M J t1 (fun s1 τ1 => WC K M J t2 nx rt s1 τ1) rt s τ) : WC K M J (tSeq t1 t2) nx rt s τ := fun En σ H r j kn kr =>
  h { En with nx := t2 En } σ H r j (fun σ' H' τ' s' l r' j' w => w En σ' H' r' j' (fun σ2 H2 τ2 s2 l2 r2 j2 n => kn σ2 H2 τ2 s2 (l.trans l2) r2 j2 n) fun v H2 d s2 l2 p j2 n => kr v H2 d s2 (l.trans l2) p j2 n) kr
omit [Stab J] in
theorem wc_next (h : nx s τ) : WC K M J tNext nx rt s τ := fun En σ H r j kn _ => kn σ H τ s (Le.refl _ _) r j h
omit [Stab J] in
theorem wc_asg {i : Nat} (h : EvC K M J te s τ (fun s' d => nx s' (τ.set i (some d)))) : WC K M J (tAsg te (gName i)) nx rt s τ := fun En σ H r j kn _ =>
  h σ H r j _ fun v H1 s1 d l1 tr1 j1 p1 hp => kn _ H1 _ s1 l1 ((r.le l1 tr1).set i p1) j1 hp
omit [Stab J] in
theorem wc_ret (h : EvC K M J te s τ rt) : WC K M J (tRet te) nx rt s τ := fun En σ H r j _ kr => h σ H r j _ fun v H1 s1 d l1 tr1 j1 p1 hp => kr v H1 d s1 l1 p1 j1 hp
omit [Stab J] in
theorem wc_par {i k : Nat} (h : EaC K M J tl s τ (fun s' ds => ∃ d e, ds = [d, e] ∧ nx s' ((τ.set i (some d)).set k (some e)))) : WC K M J (tPar i k tl) nx rt s τ := fun En σ H r j kn _ =>
  h σ H r j _ fun vs H1 s1 ds l1 tr1 j1 p1 ⟨d, e, hd, hp⟩ => by
    subst hd
    obtain ⟨v, r1, rfl, q1, t1⟩ := p1.inv
    obtain ⟨w, r2, rfl, q2, t2⟩ := t1.inv
    rw [t2.inv0]
    exact ⟨v, w, rfl, kn _ H1 _ s1 l1 (((r.le l1 tr1).set i q1).set k q2) j1 hp⟩
theorem wc_if {t1 t2 : TS} {b : Bool} (h : EtD K M tt τ b) (h1 : b = true → WC K M J t1 nx rt s τ) (h2 : b = false → WC K M J t2 nx rt s τ) : WC K M J (tIfS tt t1 t2) nx rt s τ := fun En σ H r j kn kr =>
  h σ H r _ fun H1 l1 => by
    have r1 := r.mono l1
    have j1 := Stab.st s H H1 l1 j
    cases b with
    | true =>
      show t1 En σ H1
      exact h1 rfl En σ H1 r1 j1 (fun σ' H' τ' s' l r' j' n => kn σ' H' τ' s' (l1.of0.trans l) r' j' n) fun v H' d s' l p j' n => kr v H' d s' (l1.of0.trans l) p j' n
    | false =>
      show t2 En σ H1
      exact h2 rfl En σ H1 r1 j1 (fun σ' H' τ' s' l r' j' n => kn σ' H' τ' s' (l1.of0.trans l) r' j' n) fun v H' d s' l p j' n => kr v H' d s' (l1.of0.trans l) p j' n
omit [Stab J] in
theorem wc_ifC {t1 t2 : TS} {Pb : S → Bool → Prop} (h : EtC K M J tt s τ Pb) (h1 : ∀ s', Pb s' true → WC K M J t1 nx rt s' τ) (h2 : ∀ s', Pb s' false → WC K M J t2 nx rt s' τ) : WC K M J (tIfS tt t1 t2) nx rt s τ := fun En σ H r j kn kr =>
  h σ H r j _ fun b H1 s1 l1 tr1 j1 hb => by
    have r1 := r.le l1 tr1
    cases b with
    | true =>
      show t1 En σ H1
      exact h1 s1 hb En σ H1 r1 j1 (fun σ' H' τ' s' l r' j' n => kn σ' H' τ' s' (l1.trans l) r' j' n) fun v H' d s' l p j' n => kr v H' d s' (l1.trans l) p j' n
    | false =>
      show t2 En σ H1
      exact h2 s1 hb En σ H1 r1 j1 (fun σ' H' τ' s' l r' j' n => kn σ' H' τ' s' (l1.trans l) r' j' n) fun v H' d s' l p j' n => kr v H' d s' (l1.trans l) p j' n
/-- a statement without an effect -/
theorem wc_pure {ts : TS} (h : WD K M ts (nx s) (rt s) τ) : WC K M J ts nx rt s τ := fun En σ H r j kn kr =>
  h En σ H r (fun σ' H' τ' l r' n => kn σ' H' τ' s l.of0 r' (Stab.st s H H' l j) n) fun v H' d l p n => kr v H' d s l.of0 p (Stab.st s H H' l j) n
omit [Stab J] in
theorem wc_range {k : Nat} {body : TS} {n : Nat} (hn : n ≤ 100000) (h : EaC K M J tl s τ (fun s' ds => s' = s ∧ ds = [.int (n : Int)])) (I : Nat → S → Tau → Prop) (h0 : I 0 s τ)
    (hs : ∀ i s1 τ1, i < n → I i s1 τ1 → WC K M J body (I (i + 1)) rt s1 (τ1.set k (some (.int (i : Int))))) (hd : ∀ s1 τ1, I n s1 τ1 → nx s1 τ1) : WC K M J (tFor (iRng1 tl) (gName k) body) nx rt s τ := fun En σ H r j kn kr =>
  h σ H r j _ fun vs H1 s0 ds l0 tr0 j0 p1 ⟨es, ed⟩ => by
    subst es ed
    obtain ⟨v, r1, rfl, q1, t1⟩ := p1.inv
    rw [t1.inv0, q1.int_inv]
    have e0 : ((n : Int)).toNat = n := Int.toNat_natCast n
    refine ⟨(n : Int), rfl, by omega, by omega, ?_⟩
    rw [e0]
    refine for_range (lo := 0) (n := n) (fun i σ' H' => ∃ s1 τ1, Le M H1 H' ∧ Rel K M H' σ' τ1 ∧ J s1 H' ∧ I i s1 τ1) ⟨s0, τ, Le.refl _ _, r.le l0 tr0, j0, h0⟩ ?_ ?_
    · rintro i σ' H' hl ⟨s1, τ1, l, r1, j1, hi⟩
      have e0 : (0 : Int) + (i : Int) = (i : Int) := Int.zero_add _
      show body _ (σ'.set k (some (.int ((0 : Int) + (i : Int))))) H'
      rw [e0]
      exact hs i s1 τ1 hl hi _ _ H' (r1.set k (Rp.int _)) j1 (fun σ3 H3 τ3 s3 l3 r3 j3 i3 => ⟨s3, τ3, l.trans l3, r3, j3, i3⟩) fun v3 H3 d3 s3 l3 p3 j3 q3 => kr v3 H3 d3 s3 (l0.trans (l.trans l3)) p3 j3 q3
    · rintro σ' H' ⟨s1, τ1, l, r1, j1, hi⟩
      exact kn σ' H' τ1 s1 (l0.trans l) r1 j1 (hd s1 τ1 hi)
omit [Stab J] in
theorem wc_forL {g : TG} {body : TS} {xs : List D} {tl' : TE} (h : EvD K M tl' τ (.lst xs)) (hst : ∀ s H H', Le0 H H' → J s H → J s H') (I : Nat → S → Tau → Prop) (h0 : I 0 s τ)
    (hs : ∀ i x s1 τ1, xs[i]? = some x → I i s1 τ1 → ∃ τ2, GD K M g x τ1 τ2 ∧ WC K M J body (I (i + 1)) rt s1 τ2) (hd : ∀ s1 τ1, I xs.length s1 τ1 → nx s1 τ1) : WC K M J (tFor (iList K tl') g body) nx rt s τ := fun En σ H r j kn kr =>
  h σ H r _ fun v H1 l0 p1 => by
    obtain ⟨a, vs, rfl, n1, h3, h4⟩ := p1.lst_inv
    refine ⟨a, rfl, ⟨vs, .inl (.inl h3)⟩, for_list (xs := vs) (fun i σ' H' => ∃ s1 τ1, Le M H1 H' ∧ Rel K M H' σ' τ1 ∧ J s1 H' ∧ I i s1 τ1) ⟨s, τ, Le.refl _ _, r.mono l0, hst s H H1 l0 j, h0⟩ ?_ ?_ ?_⟩
    · rintro i σ' H' _ ⟨s1, τ1, l, _⟩
      exact .inl (.inl (l a _ n1 h3))
    · rintro i x σ' H' hx ⟨s1, τ1, l, r1, j1, hi⟩
      have hl : i < xs.length := by
        have := (List.getElem?_eq_some_iff.mp hx).1
        rw [h4.len] at this
        exact this
      obtain ⟨τ2, hg, hw⟩ := hs i xs[i] s1 τ1 (List.getElem?_eq_getElem hl) hi
      obtain ⟨v, hv, pv⟩ := h4.get (List.getElem?_eq_getElem hl)
      rw [hx] at hv
      cases hv
      refine hg x σ' H' r1 (pv.mono l) _ fun σ2 r2 => ?_
      exact hw _ σ2 H' r2 j1 (fun σ3 H3 τ3 s3 l3 r3 j3 i3 => ⟨s3, τ3, l.trans l3, r3, j3, i3⟩) fun v3 H3 d3 s3 l3 p3 j3 q3 => kr v3 H3 d3 s3 (l0.of0.trans (l.trans l3)) p3 j3 q3
    · rintro σ' H' ⟨s1, τ1, l, r1, j1, hi⟩
      rw [h4.len] at hi
      exact kn σ' H' τ1 s1 (l0.of0.trans l) r1 j1 (hd s1 τ1 hi)
omit [Stab J] in
theorem wc_forT {g : TG} {body : TS} {xs : List D} {tl' : TE} (h : EvD K M tl' τ (.tup xs)) (hst : ∀ s H H', Le0 H H' → J s H → J s H') (I : Nat → S → Tau → Prop) (h0 : I 0 s τ)
    (hs : ∀ i x s1 τ1, xs[i]? = some x → I i s1 τ1 → ∃ τ2, GD K M g x τ1 τ2 ∧ WC K M J body (I (i + 1)) rt s1 τ2) (hd : ∀ s1 τ1, I xs.length s1 τ1 → nx s1 τ1) : WC K M J (tFor (iTup K tl') g body) nx rt s τ := fun En σ H r j kn kr =>
  h σ H r _ fun v H1 l0 p1 => by
    obtain ⟨a, vs, rfl, n1, h3, h4⟩ := p1.tup_inv
    refine ⟨a, rfl, ⟨vs, .inl (.inl h3)⟩, for_tup (xs := vs) (fun i σ' H' => ∃ s1 τ1, Le M H1 H' ∧ Rel K M H' σ' τ1 ∧ J s1 H' ∧ I i s1 τ1) ⟨s, τ, Le.refl _ _, r.mono l0, hst s H H1 l0 j, h0⟩ ?_ ?_ ?_⟩
    · rintro i σ' H' _ ⟨s1, τ1, l, _⟩
      exact .inl (.inl (l a _ n1 h3))
    · rintro i x σ' H' hx ⟨s1, τ1, l, r1, j1, hi⟩
      have hl : i < xs.length := by
        have := (List.getElem?_eq_some_iff.mp hx).1
        rw [h4.len] at this
        exact this
      obtain ⟨τ2, hg, hw⟩ := hs i xs[i] s1 τ1 (List.getElem?_eq_getElem hl) hi
      obtain ⟨v, hv, pv⟩ := h4.get (List.getElem?_eq_getElem hl)
      rw [hx] at hv
      cases hv
      refine hg x σ' H' r1 (pv.mono l) _ fun σ2 r2 => ?_
      exact hw _ σ2 H' r2 j1 (fun σ3 H3 τ3 s3 l3 r3 j3 i3 => ⟨s3, τ3, l.trans l3, r3, j3, i3⟩) fun v3 H3 d3 s3 l3 p3 j3 q3 => kr v3 H3 d3 s3 (l0.of0.trans (l.trans l3)) p3 j3 q3
    · rintro σ' H' ⟨s1, τ1, l, r1, j1, hi⟩
      rw [h4.len] at hi
      exact kn σ' H' τ1 s1 (l0.of0.trans l) r1 j1 (hd s1 τ1 hi)
end
/-! ### the cup -/
/-- the law's cup: two numbers at c -/
def Cup (c : Addr) : Unit → Hp → Prop := fun _ H => ∃ x y : Int, H c = some (.lst [.int x, .int y]) ∧ 0 ≤ x ∧ 0 ≤ y ∧ y < 2 ^ 40
instance {c : Addr} : Stab (Cup c) := ⟨fun _ H H' l ⟨x, y, h, h1, h2, h3⟩ => ⟨x, y, l c _ (fun z => z) h, h1, h2, h3⟩⟩
abbrev Mc (c : Addr) : Addr → Prop := fun a => a = c
/-- a def that draws from the cup, its first argument -/
def spC (K : PySem.W.Frag) (F : List D → (D → Prop) → Prop) : Sp := fun vs H Q _ => ∃ (c : Addr) (ds : List D) (Pd : D → Prop) (ws : List V), vs = .ref c :: ws ∧ Cup c () H ∧ RpL K (Mc c) H ds ws ∧ F ds Pd ∧ ∀ v H' d, Le (Mc c) H H' → Cup c () H' → Rp K (Mc c) H' d v → Pd d → Q v H'
theorem cup_tr {c : Addr} {H : Hp} (h : Cup c () H) : ∀ a, Mc c a → H a ≠ none := fun a e => by
  obtain ⟨x, y, h, _⟩ := h
  rw [show a = c from e, h]
  intro z; cases z
section
variable {K : PySem.W.Frag} {c : Addr} {tl : TA} {τ : Tau} {P : Unit → D → Prop}
theorem ec_callC {F : List D → (D → Prop) → Prop} {E : XK} (h : EaC K (Mc c) (Cup c) tl () τ (fun s' ds => ∃ es Pd, ds = .adr c :: es ∧ F es Pd ∧ ∀ d, Pd d → P s' d)) : EvC K (Mc c) (Cup c) (tCall (spC K F) [] E tl) () τ P := fun σ H r j Q q =>
  h σ H r j _ fun vs H1 s1 ds l1 tr1 j1 p1 ⟨es, Pd, e, hf, hp⟩ => by
    subst e
    obtain ⟨v, ws, rfl, q1, t1⟩ := p1.inv
    rw [q1.adr_inv]
    exact ⟨c, es, Pd, ws, by rw [List.append_nil], j1, t1, hf, fun v H' d l j' p hd => q v H' () d (l1.trans l) (cup_tr j') j' p (hp d hd)⟩
end
section
variable {P : Program} {w : World} {K : PySem.W.Frag} {mg : Str → Option Value} {base : Heap}
def startC (c : Addr) (N : List Str) (ds : List D) : Tau := startT N (.adr c :: ds)
theorem fnC {x qual : Str} {st : Stmt} {f : Addr} {fd : FuncData} {N ps : List Str} {k : Nat} {F : List D → (D → Prop) → Prop} (U : Fun K x qual st f fd) (S : FnScope N ps (defScope st)) (len : ∀ ds Pd, F ds Pd → ds.length + 1 = ps.length)
    (hbody : ∀ (cdv : Value) (A : Around) (outer : List Env) (s : Shared) (H : Hp) (E : XK), Room k (A.deeper (envOfC qual (defScope st) s.heap.objs.size f cdv)) →
      ∃ t, PSs (cxOf CX0 P w K mg base N qual (defScope st) f cdv A outer s H E).nox (defBody st) t ∧ ∀ c ds Pd, F ds Pd → WC K (Mc c) (Cup c) t (fun _ _ => Pd .non) (fun _ => Pd) () (startC c N ds)) : FnOk P w K mg base CX0 (k + 1) f fd ps (spC K F) := by
  refine U.ok S (fun vs H Q E h => ?_) (fun cdv A outer s H vs Q E hr h => ?_)
  · obtain ⟨c, ds, Pd, ws, rfl, _, h2, h3, _⟩ := h
    rw [List.length_cons, h2.len]
    exact len ds Pd h3
  · obtain ⟨c, ds, Pd, ws, rfl, h1, h2, h3, h4⟩ := h
    obtain ⟨t, ht, hw⟩ := hbody cdv A outer s H E hr
    exact ⟨t, ht, hw c ds Pd h3 _ _ H (rel_start (cup_tr h1) (RpL.cons (Rp.adr c) h2)) h1 (fun σ' H' τ' s' l r j n => h4 .non H' .non l j Rp.non n) fun v H' d s' l p j n => h4 v H' d l j p n⟩
end
end PD
/-! A list or a dict of a def's own, written in place. -/
namespace PD
open PySem PySem.Spec PyProof.Rows L2 PDX
abbrev Mp (M : Addr → Prop) (p : Addr) : Addr → Prop := fun a => M a ∨ a = p
structure Own (K : PySem.W.Frag) (M : Addr → Prop) (p : Addr) (H0 : Hp) {S : Type} (dv : S → D) (s : S) (H : Hp) : Prop where
  own : Rp K M H (dv s) (.ref p)
  keep : ∀ a u, M a → H0 a = some u → H a = some u
instance {K : PySem.W.Frag} {M : Addr → Prop} {p : Addr} {H0 : Hp} {S : Type} {dv : S → D} : Stab (Own K M p H0 dv) :=
  ⟨fun s H H' l o => ⟨o.own.mono l.of0, fun a u m h => l a u (fun z => z) (o.keep a u m h)⟩⟩
mutual
def noT : D → Bool
  | .tup ds => noTs ds
  | .lst ds => noTs ds
  | .dt _ _ => false
  | .dk _ _ => false
  | .dkz _ _ => false
  | _ => true
def noTs : List D → Bool
  | [] => true
  | d :: ds => noT d && noTs ds
end
section
variable {K : PySem.W.Frag} {M : Addr → Prop} {H H' H0 : Hp} {p : Addr}
mutual
theorem Rp.chT (c1 : ∀ a xs, H a = some (.tup xs) → H' a = some (.tup xs)) (c2 : ∀ a xs, H a = some (.lst xs) → H' a = some (.lst xs)) : ∀ {d : D} {v : V}, noT d = true → Rp K M H d v → Rp K M H' d v
  | .non, _, _, h => by unfold Rp at h ⊢; exact h
  | .bl _, _, _, h => by unfold Rp at h ⊢; exact h
  | .int _, _, _, h => by unfold Rp at h ⊢; exact h
  | .str _, _, _, h => by unfold Rp at h ⊢; exact h
  | .ty _, _, _, h => by unfold Rp at h ⊢; exact h
  | .adr _, _, _, h => by unfold Rp at h ⊢; exact h
  | .con _, _, _, h => by unfold Rp at h ⊢; exact h
  | .tup ds, _, n, h => by
    unfold noT at n
    unfold Rp at h ⊢
    obtain ⟨a, vs, h1, h2, h3, h4⟩ := h
    exact ⟨a, vs, h1, h2, c1 _ _ h3, RpL.chT c1 c2 n h4⟩
  | .lst ds, _, n, h => by
    unfold noT at n
    unfold Rp at h ⊢
    obtain ⟨a, vs, h1, h2, h3, h4⟩ := h
    exact ⟨a, vs, h1, h2, c2 _ _ h3, RpL.chT c1 c2 n h4⟩
  | .dt _ _, _, n, _ => by unfold noT at n; cases n
  | .dk _ _, _, n, _ => by unfold noT at n; cases n
  | .dkz _ _, _, n, _ => by unfold noT at n; cases n
theorem RpL.chT (c1 : ∀ a xs, H a = some (.tup xs) → H' a = some (.tup xs)) (c2 : ∀ a xs, H a = some (.lst xs) → H' a = some (.lst xs)) : ∀ {ds : List D} {vs : List V}, noTs ds = true → RpL K M H ds vs → RpL K M H' ds vs
  | [], _, _, h => by unfold RpL at h ⊢; exact h
  | d :: ds, _, n, h => by
    unfold noTs at n
    rw [Bool.and_eq_true] at n
    unfold RpL at h ⊢
    obtain ⟨v, r, h1, h2, h3⟩ := h
    exact ⟨v, r, h1, Rp.chT c1 c2 n.1 h2, RpL.chT c1 c2 n.2 h3⟩
end
mutual
theorem Rp.upT {ws : List (List Key × V)} (hp : H p = some (.dT ws)) : ∀ {d : D} {v : V}, noT d = true → Rp K M H d v → Rp K (Mp M p) H d v
  | .non, _, _, h => by unfold Rp at h ⊢; exact h
  | .bl _, _, _, h => by unfold Rp at h ⊢; exact h
  | .int _, _, _, h => by unfold Rp at h ⊢; exact h
  | .str _, _, _, h => by unfold Rp at h ⊢; exact h
  | .ty _, _, _, h => by unfold Rp at h ⊢; exact h
  | .adr _, _, _, h => by unfold Rp at h ⊢; exact h
  | .con _, _, _, h => by unfold Rp at h ⊢; exact h
  | .tup ds, _, n, h => by
    unfold noT at n
    unfold Rp at h ⊢
    obtain ⟨a, vs, h1, h2, h3, h4⟩ := h
    exact ⟨a, vs, h1, fun z => z.elim h2 (fun e => by subst e; rw [hp] at h3; cases h3), h3, RpL.upT hp n h4⟩
  | .lst ds, _, n, h => by
    unfold noT at n
    unfold Rp at h ⊢
    obtain ⟨a, vs, h1, h2, h3, h4⟩ := h
    exact ⟨a, vs, h1, fun z => z.elim h2 (fun e => by subst e; rw [hp] at h3; cases h3), h3, RpL.upT hp n h4⟩
  | .dt _ _, _, n, _ => by unfold noT at n; cases n
  | .dk _ _, _, n, _ => by unfold noT at n; cases n
  | .dkz _ _, _, n, _ => by unfold noT at n; cases n
theorem RpL.upT {ws : List (List Key × V)} (hp : H p = some (.dT ws)) : ∀ {ds : List D} {vs : List V}, noTs ds = true → RpL K M H ds vs → RpL K (Mp M p) H ds vs
  | [], _, _, h => by unfold RpL at h ⊢; exact h
  | d :: ds, _, n, h => by
    unfold noTs at n
    rw [Bool.and_eq_true] at n
    unfold RpL at h ⊢
    obtain ⟨v, r, h1, h2, h3⟩ := h
    exact ⟨v, r, h1, Rp.upT hp n.1 h2, RpL.upT hp n.2 h3⟩
end
variable {S : Type} {dv : S → D} {s s' : S} {te ta tb ty tv : TE} {tt : TT} {tl : TA} {τ : Tau} {d e : D} {ds : List D} {nx : Tau → Prop} {rt : D → Prop} {nxs : S → Tau → Prop} {rts : S → D → Prop}
theorem own_rel {σ : L2.St} {i : Nat} (r : Rel K (Mp M p) H σ τ) (h : τ[i]? = some (some (.adr p))) (o : Rp K M H d (.ref p)) : Rel K M H σ (τ.set i (some d)) := by
  refine ⟨fun a m => r.tr a (.inl m), by rw [List.length_set]; exact r.len, fun k e q => ?_⟩
  rw [List.getElem?_set] at q
  by_cases c : i = k
  · subst c
    rw [if_pos rfl] at q
    split at q
    · obtain ⟨v, h1, h2⟩ := r.at_ i _ h
      have e2 : some d = some e := Option.some.inj q
      cases e2
      rw [h2.adr_inv] at h1
      exact ⟨_, h1, o⟩
    · cases q
  · rw [if_neg c] at q
    obtain ⟨v, h1, h2⟩ := r.at_ k e q
    exact ⟨v, h1, h2.weak (fun _ m => .inl m)⟩
theorem ec_read {i : Nat} (hi : τ[i]? = some (some (.adr p))) (h : EvD K M te (τ.set i (some (dv s))) d) (up : ∀ H v, Rp K M H (dv s) (.ref p) → Rp K M H d v → Rp K (Mp M p) H d v) : EvC K (Mp M p) (Own K M p H0 dv) te s τ (fun s' d' => s' = s ∧ d' = d) := fun σ H r o Q q =>
  h σ H (own_rel r hi o.own) Q fun v H' l pv => q v H' s d l.of0 (fun a m => l.there (r.tr a m)) (Stab.st s H H' l o) (up H' v (o.own.mono l.of0) pv) ⟨rfl, rfl⟩
theorem etc_read {i : Nat} {b : Bool} (hi : τ[i]? = some (some (.adr p))) (h : EtD K M tt (τ.set i (some (dv s))) b) : EtC K (Mp M p) (Own K M p H0 dv) tt s τ (fun s' b' => s' = s ∧ b' = b) := fun σ H r o Q q =>
  h σ H (own_rel r hi o.own) Q fun H' l => q b H' s l.of0 (fun a m => l.there (r.tr a m)) (Stab.st s H H' l o) ⟨rfl, rfl⟩
/-- d[k] = v -/
theorem wc_dput {i : Nat} {ks : List (List Key)} {k : List Key} (hi : τ[i]? = some (some (.adr p))) (hd : dv s = .dt ks ds) (hd' : dv s' = .dt (putKs ks k) (putDs ks ds k d)) (hv : EvD K (Mp M p) tv τ d) (hk : EvD K (Mp M p) ty τ (keyD k))
    (n1 : noTs ds = true) (n2 : noT d = true) (hz : ks.length < 100000) (hat : ∀ i : Nat, ks[i]? = some k → ds[i]? = some d) (h : nxs s' τ) : WC K (Mp M p) (Own K M p H0 dv) (sDPut (tVar i) ty tv) nxs rts s τ := fun En σ H r o kn kr =>
  hv σ H r _ fun v H1 l1 p1 => ed_var (d := .adr p) hi σ H1 (r.mono l1) _ fun x H2 l2 px => hk σ H2 (r.mono (l1.trans l2)) _ fun y H3 l3 py => by
    obtain ⟨b, rfl, hb⟩ := keyD_inv py
    have o3 := Stab.st s H H3 (l1.trans (l2.trans l3)) o
    have ow := o3.own
    rw [hd] at ow
    obtain ⟨a, ws, ea, na, hws, hks, hrp⟩ := ow.dt_inv
    cases ea
    have hl : ws.length = ks.length := hp_len hks
    have c1 : ∀ a xs, H3 a = some (.tup xs) → upd H3 p (.dT (putK ws k v)) a = some (.tup xs) := fun a xs q => by rw [upd_ne (ne_of q hws (by intro z; cases z))]; exact q
    have c2 : ∀ a xs, H3 a = some (.lst xs) → upd H3 p (.dT (putK ws k v)) a = some (.lst xs) := fun a xs q => by rw [upd_ne (ne_of q hws (by intro z; cases z))]; exact q
    obtain ⟨g1, g2⟩ := put_rp (K := K) (M := M) (H := upd H3 p (.dT (putK ws k v))) (z := v) hks (RpL.chT c1 c2 n1 hrp) hat (Rp.chT c1 c2 n2 ((p1.mono (l2.trans l3).of0).weak fun _ m => .inl m))
    refine ⟨p, upd H3 p (.dT (putK ws k v)), px.adr_inv, DPut.t hws hb (by rw [hl]; exact Nat.lt_of_lt_of_le hz (by decide)), kn σ _ τ s' (fun a u n q => ?_) ((r.mono (l1.trans (l2.trans l3))).put (.inr rfl)) ⟨?_, fun a u m q => ?_⟩ h⟩
    · rw [upd_ne (fun z => n (.inr z))]
      exact (l1.trans (l2.trans l3)) a u (fun z => z) q
    · rw [hd']
      exact Rp.dt na upd_same g1 g2
    · rw [upd_ne (fun z => na (by rw [← z]; exact m))]
      exact o3.keep a u m q
theorem flat_lst {ns : List Nat} {vs : List V} {M' : Addr → Prop} {f : Nat → D} (hf : ∀ n, ∃ i : Int, f n = .int i) (h : RpL K M H (ns.map f) vs) : RpL K M' H' (ns.map f) vs := by
  induction ns generalizing vs with
  | nil => rw [h.inv0]; exact RpL.nil
  | cons n ns ih =>
    obtain ⟨v, r, rfl, q, t⟩ := h.inv
    obtain ⟨i, e⟩ := hf n
    rw [e] at q
    rw [q.int_inv, List.map_cons, e]
    exact RpL.cons (Rp.int i) (ih t)
/-- xs.append(x), whole numbers -/
theorem wc_append {i : Nat} {f : Nat → D} (hf : ∀ n, ∃ i : Int, f n = .int i) {ns : List Nat} {n : Nat} (hi : τ[i]? = some (some (.adr p))) (hd : dv s = .lst (ns.map f)) (hd' : dv s' = .lst ((ns ++ [n]).map f)) (hv : EvD K (Mp M p) te τ (f n)) (hz : ns.length < 100000) (h : nxs s' τ) :
    WC K (Mp M p) (Own K M p H0 dv) (tDrop (tBM K "list" rAppend (tVar i) (tCons te tNil))) nxs rts s τ := fun En σ H r o kn kr => by
    unfold tDrop tBM
    refine ed_var (d := .adr p) hi σ H r _ fun x H1 l1 px => ?_
    have ex := px.adr_inv
    subst ex
    have o1 := Stab.st s H H1 l1 o
    have ow1 := o1.own
    rw [hd] at ow1
    obtain ⟨a1, vs1, ea1, na1, h31, h41⟩ := ow1.lst_inv
    cases ea1
    refine ⟨.inl ⟨rfl, vs1, .inl (.inl h31)⟩, hv σ H1 (r.mono l1) _ fun y H2 l2 py => ?_⟩
    have o2 := Stab.st s H1 H2 l2 o1
    have ow := o2.own
    rw [hd] at ow
    obtain ⟨a, vs, ea, na, h3, h4⟩ := ow.lst_inv
    cases ea
    have hl := h4.len
    rw [List.length_map] at hl
    refine ⟨p, vs, y, rfl, rfl, h3, by rw [hl]; exact Nat.lt_of_lt_of_le hz (by decide), kn σ _ τ s' (fun a u n q => ?_) ((r.mono (l1.trans l2)).put (.inr rfl)) ⟨?_, fun a u m q => ?_⟩ h⟩
    · rw [upd_ne (fun z => n (.inr z))]
      exact (l1.trans l2) a u (fun z => z) q
    · rw [hd', List.map_append]
      refine Rp.lst na upd_same (RpL.append (flat_lst hf h4) ?_)
      obtain ⟨i, e⟩ := hf n
      rw [e] at py
      rw [py.int_inv, List.map_singleton, e]
      exact RpL.cons (Rp.int i) RpL.nil
    · rw [upd_ne (fun z => na (by rw [← z]; exact m))]
      exact o2.keep a u m q
theorem own_back {H1 : Hp} {o : HO} (l1 : Le0 H H1) (hp : H1 p = none) (l : Le (Mp M p) (upd H1 p o) H') (k : ∀ a u, M a → H1 a = some u → H' a = some u) : Le0 H H' := fun a u _ q => by
  have q1 := l1 a u (fun z => z) q
  have ne := ne_of_none q1 hp
  by_cases m : M a
  · exact k a u m q1
  · exact l a u (fun z => z.elim m ne) (by rw [upd_ne ne]; exact q1)
theorem wd_own_lst {i : Nat} {t2 : TS} (h : EaD K M tl τ ds) (hl : ds.length ≤ 100000) (dv : S → D) (s0 : S) (e : dv s0 = .lst ds)
    (k : ∀ p H0, WC K (Mp M p) (Own K M p H0 dv) t2 (fun _ _ => False) (fun s d => d = .adr p ∧ rt (dv s)) s0 (τ.set i (some (.adr p)))) : WD K M (tSeq (tAsg (tLst tl) (gName i)) t2) nx rt τ := fun En σ H r kn kr =>
  h σ H r _ fun vs H1 l1 pl => ⟨by rw [pl.len]; exact Nat.le_trans hl (by decide), fun p hp => by
    have r1 := r.mono l1
    refine k p H1 En _ _ ((r1.add hp).set i (Rp.adr p)) ⟨by rw [e]; exact Rp.lst (not_M r1.tr hp) upd_same (pl.mono (Le.new hp).of0), fun a u m q => by rw [upd_ne (ne_of_none q hp)]; exact q⟩ (fun _ _ _ _ _ _ _ z => z.elim) fun v H' d s l pv o ⟨ed, hr⟩ => ?_
    subst ed
    have ev := pv.adr_inv
    subst ev
    exact kr _ H' (dv s) (own_back l1 hp l o.keep) o.own hr⟩
theorem wd_own_dict {i j : Nat} {t2 : TS} (dv : S → D) (s0 : S) (e0 : dv s0 = .dt [] []) (h : ∀ p, EvD K (Mp M p) te τ e)
    (k : ∀ p H0, WC K (Mp M p) (Own K M p H0 dv) t2 (fun _ _ => False) (fun s d => d = .adr p ∧ rt (dv s)) s0 ((τ.set i (some (.adr p))).set j (some e))) : WD K M (tSeq (tPar i j (tCons tDNewT (tCons te tNil))) t2) nx rt τ := fun En σ H r kn kr p hp => by
  have r1 := r.add (o := .dT []) hp
  refine h p σ _ r1 _ fun y H2 l2 py => ?_
  have ow : Rp K M H2 (.dt [] []) (.ref p) := (Rp.dt (not_M r.tr hp) upd_same rfl RpL.nil).mono l2.of0
  refine ⟨.ref p, y, rfl, k p H En _ _ (((r1.mono l2).set i (Rp.adr p)).set j py) ⟨by rw [e0]; exact ow, fun a u m q => l2 a u (fun z => z) (by rw [upd_ne (ne_of_none q hp)]; exact q)⟩ (fun _ _ _ _ _ _ _ z => z.elim) fun v H' d s l pv o ⟨ed, hr⟩ => ?_⟩
  subst ed
  have ev := pv.adr_inv
  subst ev
  exact kr _ H' (dv s) (own_back (Le.refl _ _) hp (l2.of0.trans l) o.keep) o.own hr
/-- d.get(k, x)[0] -/
theorem ed_dget2T {ks : List (List Key)} {k : List Key} {d1 : D} (h1 : EvD K M ta τ (.dt ks ds)) (h2 : EvD K M tb τ (keyD k)) (h3 : EvD K M te τ d) (hk : (lookK ks ds k).getD d = d1) : EvD K M (tDGet2 ta tb te) τ d1 := fun σ H r Q q =>
  h1 σ H r _ fun x H1 e1 p1 => by
    obtain ⟨a, kvs, rfl, n, ha, hks, hrp⟩ := p1.dt_inv
    refine ⟨a, rfl, .inr ⟨kvs, .inl ha⟩, h2 σ H1 (r.mono e1) _ fun y H2 e2 p2 => h3 σ H2 (r.mono (e1.trans e2)) _ fun z H3 e3 p3 => ?_⟩
    obtain ⟨b, rfl, hb⟩ := keyD_inv p2
    obtain ⟨g1, g2⟩ := look_val k (hrp.mono (e2.trans e3).of0)
    rw [hks] at g1 g2
    refine ⟨valV kvs k, .inr ⟨kvs, k, b, .inl ((e2.trans e3) a _ (fun z => z) ha), rfl, e3 b _ (fun z => z) hb, rfl⟩, ?_⟩
    cases hl : lookK ks ds k with
    | none =>
      rw [hl] at hk
      rw [g2 hl]
      subst hk
      exact q _ H3 (e1.trans (e2.trans e3)) p3
    | some d2 =>
      rw [hl] at hk
      obtain ⟨v, hv, pv⟩ := g1 d2 hl
      rw [hv]
      subst hk
      exact q _ H3 (e1.trans (e2.trans e3)) pv
theorem rv_rep {k : Int} (h1 : 2 ≤ k) (h2 : k ≤ 1000) (hn : ds ≠ []) (hl : ds.length ≤ 1000) : RvD K M (rRepT K) (.tup ds) (.int k) (.tup (List.replicate k.toNat ds).flatten) := fun x y H tr hx hy Q q => by
  obtain ⟨a, vs, rfl, _, h3, h4⟩ := hx.tup_inv
  have hlen := h4.len
  refine ⟨a, k, vs, rfl, hy.int_inv, .inl (.inl h3), fun e => ?_, h1, h2, by rw [hlen]; exact hl, fun p hp => ?_⟩
  · rw [e] at hlen
    exact hn (List.eq_nil_of_length_eq_zero hlen.symm)
  · refine q _ _ (Le.new hp) (Rp.tup (not_M tr hp) upd_same ?_)
    have : ∀ n : Nat, RpL K M H (List.replicate n ds).flatten (List.replicate n vs).flatten := fun n => by
      induction n with
      | zero => exact RpL.nil
      | succ n ih =>
        rw [List.replicate_succ, List.replicate_succ, List.flatten_cons, List.flatten_cons]
        exact h4.append ih
    exact (this k.toNat).mono (Le.new hp).of0
end
end PD
namespace Sp
open PySem PySem.Spec PyProof.Rows L2 PD PDX
/-- an entry of the law's table -/
def entL (e : Ma.Entry) : D := .lst [eD e.1, .int (e.2.1 : Int), sD e.2.2.1, sD e.2.2.2]
def tabKs (t : Ma.Tab) : List (List Key) := t.map fun x => kP x.1
def tabDs (t : Ma.Tab) : List D := t.map fun x => entL x.2
def tabD (t : Ma.Tab) : D := .dt (tabKs t) (tabDs t)
def optL : Option Ma.Entry → D
  | none => .non
  | some e => entL e
theorem look_tab (q : Ma.Pair) : ∀ t : Ma.Tab, lookK (tabKs t) (tabDs t) (kP q) = (Ma.lk t q).map entL
  | [] => rfl
  | (k, e) :: t => by
    have ih := look_tab q t
    unfold tabKs tabDs at ih ⊢
    rw [List.map_cons, List.map_cons, lookK, Ma.lk]
    by_cases c : k = q
    · subst c
      rw [if_pos rfl, if_pos rfl]; rfl
    · rw [if_neg (fun z => c (kP_inj z)), if_neg c, ih]
section
variable {P : Program} {w : World} {K : PySem.W.Frag} {mg : Str → Option Value} {base : Heap}
def fPair : List D → (D → Prop) → Prop := fun ds Pd => ∃ (R : Ma.Routine) (p : Ma.Pair) (t : Ma.Tab), Ma.VR R ∧ p ∈ Ma.pairsOf R.length ∧ Ma.Tok R t ∧ ds = [rD R, pkD p, tabD t] ∧ Pd = fun x => x = optL (Ma.pairStep R (Ma.lk t) p)
abbrev nPair : List Str := ["_law_routine", "_law_pair_here", "_law_told_here", "_law_marks", "_law_back", "_law_here", "_law_turns", "_law_needs", "_law_at", "_law_need", "_law_more", "_law_handed", "_law_left"]
theorem scPair : FnScope nPair ["_law_routine", "_law_pair_here", "_law_told_here"] (defScope (topS 37)) := ⟨rfl, rfl, rfl, by decide +kernel, rfl, by decide +kernel, by decide +kernel⟩
theorem cut1001' (m h : List Nat) : PD.cutD (m.map nD ++ h.map nD) none (some (1001 : Int)) = ((m ++ h).take 1001).map nD := by
  rw [show ((1001 : Int)) = ((1001 : Nat) : Int) from rfl, cutTo, ← List.map_append, List.map_take]
theorem ok_pair (T : Tx K mg) (a : At K mg "_law_pair" 37 ["_law_routine", "_law_pair_here", "_law_told_here"]) : Cal P w K mg base "_law_pair" 1 ["_law_routine", "_law_pair_here", "_law_told_here"] fPair := by
  refine calD a scPair (fun ds Pd h => by obtain ⟨R, p, ks, _, _, _, rfl, _⟩ := h; rfl) fun f cdv A outer s H E hr => ?_
  have hu := hu_of hr
  refine ⟨_, pss_cons (ps_asg (pe_ix ix_tup (pe_ix ix_tup (pv 0) (pe_ix ix_tup (pv 1) pe_int (fun _ _ => rfl)) (fun _ _ => rfl)) (pe_ix ix_tup (pv 1) pe_int (fun _ _ => rfl)) (fun _ _ => rfl)) (pg_tup rfl (pgs_cons (pg_name (i := 3) scPair.nd rfl (.inl rfl)) (pgs_cons (pg_name (i := 4) scPair.nd rfl (.inl rfl)) (pgs_cons (pg_name (i := 5) scPair.nd rfl (.inl rfl)) pgs_nil)))))
    (pss_cons (ps_if (pt_cmpR op_eq (pv 5) (pe_un un_neg pe_int) (nomark _)) (pss_one (ps_ret (pe_lst (pa_cons (pe_un un_neg pe_int) (pa_cons pe_int (pa_cons (pv 3) (pa_cons (pv 4) pa_nil))))))) pss_nil)
    (pss_cons (ps_par (i := 6) (j := 7) rfl scPair.nd rfl rfl (by decide) rfl rfl (pa_cons pe_int (pa_cons (pe_ifExp (pt_cmpR op_lt (pe_ix ix_tup (pv 1) pe_int (fun _ _ => rfl)) pe_int (nomark _)) (pv 4) (pe_op op_catA (pv 4) (pe_tup (pa_cons pe_int pa_nil)))) pa_nil)) (by rfl))
    (pss_cons (ps_for PassesOwn.never rfl (pi_enumT (by rfl) T.enum (pa_cons (pv 7) pa_nil))
      (pg_tup rfl (pgs_cons (pg_name (i := 8) scPair.nd rfl (.inl rfl)) (pgs_cons (pg_name (i := 9) scPair.nd rfl (.inl rfl)) pgs_nil)))
      (pss_cons (ps_if (pt_cmp (pc_dnotin hu (pe_tup (pa_cons (pv 5) (pa_cons (pv 9) pa_nil))) (pv 2))) (pss_one (ps_ret pe_non)) pss_nil)
      (pss_cons (ps_asg (pe_dget hu (pv 2) (pe_tup (pa_cons (pv 5) (pa_cons (pv 9) pa_nil))) (fun _ _ => rfl)) (pg_lst rfl (pgs_cons (pg_name (i := 5) scPair.nd rfl (.inl rfl)) (pgs_cons (pg_name (i := 10) scPair.nd rfl (.inl rfl)) (pgs_cons (pg_name (i := 11) scPair.nd rfl (.inl rfl)) (pgs_cons (pg_name (i := 12) scPair.nd rfl (.inl rfl)) pgs_nil))))))
      (pss_cons (ps_par (i := 6) (j := 3) rfl scPair.nd rfl rfl (by decide) rfl rfl (pa_cons (pe_op op_add (pv 6) (pv 10)) (pa_cons (pe_slice sl_tupA (pe_op op_catA (pv 3) (pv 11)) po_none (po_some pe_int)) pa_nil)) (by rfl))
      (pss_one (ps_if (pt_cmpR op_eq (pv 5) (pe_un un_neg pe_int) (nomark _)) (pss_one (ps_ret (pe_lst (pa_cons (pe_un un_neg pe_int) (pa_cons (pv 6) (pa_cons (pv 3) (pa_cons (pe_op op_catA (pv 12) (pe_slice sl_tupA (pv 4) (po_some (pe_op op_add (pv 8) pe_int)) po_none)) pa_nil))))))) pss_nil))))))
    (pss_one (ps_ret (pe_lst (pa_cons (pv 5) (pa_cons (pv 6) (pa_cons (pv 3) (pa_cons (pe_tup pa_nil) pa_nil)))))))))), fun M ds Pd h => ?_⟩
  obtain ⟨R, p, t, v, hp, tk, rfl, rfl⟩ := h
  obtain ⟨vm, hp1, hp2⟩ := Ma.getM_valid v hp
  generalize hmv : Ma.getM R p = mv at vm hp2
  obtain ⟨mk, bk, nx⟩ := mv
  have e1 : L2.atI (R.map pD) (p.1 : Int) = some (pD (R.getD p.1 [])) := atI_nat' (by rw [List.getElem?_map, hp1]; rfl)
  have e2 : L2.atI ((R.getD p.1 []).map mD) (p.2 : Int) = some (mD (mk, bk, nx)) := atI_nat' (by rw [List.getElem?_map, hp2]; rfl)
  have hb3 := vm.b1
  have hm2 := vm.m1
  simp only at hb3 hm2
  have htl : t.length ≤ 24 := by have := tk.len; have := v.hi; omega
  refine wd_seq (wd_asgG (ed_op (ed_op (ed_var (d := rD R) rfl) (ed_op (ed_var (d := pkD p) rfl) ed_int (rv_ixT rfl)) (rv_ixT e1)) (ed_op (ed_var (d := pkD p) rfl) ed_int (rv_ixT rfl)) (rv_ixT e2)) (gd_tup (gs_cons gd_name (gs_cons gd_name (gs_cons gd_name gs_nil))) rfl) ?_)
  cases nx with
  | none =>
    have hres : Ma.pairStep R (Ma.lk t) p = some (none, 1, mk, bk) := by
      unfold Ma.pairStep Ma.nextNeed
      rw [hmv]; rfl
    rw [hres]
    exact wd_seq (wd_if (b := true) (et_is (et_test (ed_op (ed_var (d := .int (-1)) rfl) (ed_un ed_int ru_neg) rv_eqI)) rfl) (fun _ => wd_ret (ed_lst (ea_cons (ed_un ed_int ru_neg) (ea_cons ed_int (ea_cons (ed_var rfl) (ea_cons (ed_var rfl) ea_nil)))) (Nat.le_of_ble_eq_true rfl)) rfl) (fun h => nomatch h))
  | some h0 =>
    have hres : Ma.pairStep R (Ma.lk t) p = Ma.told1 (Ma.loop (fun q => (Ma.lk t q).map some) bk 0 h0 1 mk (Ma.needsOf bk p.2)) := by
      unfold Ma.pairStep Ma.nextNeed
      rw [hmv]
    refine wd_seq (wd_if (b := false) (et_is (et_test (ed_op (ed_var (d := .int (h0 : Int)) rfl) (ed_un ed_int ru_neg) rv_eqI)) (decide_eq_false (by omega))) (fun h => nomatch h) fun _ => wd_next ?_)
    have hnl : (Ma.needsOf bk p.2).length ≤ 4 := by
      unfold Ma.needsOf
      split
      · omega
      · rw [List.length_append, List.length_singleton]; omega
    refine wd_seq (wd_par (d := .int 1) (e := sD (Ma.needsOf bk p.2)) (ea_cons ed_int (ea_cons (ed_if (b := decide ((p.2 : Int) < 3)) (et_test (ed_op (ed_op (ed_var (d := pkD p) rfl) ed_int (rv_ixT rfl)) ed_int rv_lt)) (fun h => ed_is (ed_var (d := sD bk) rfl) ?q1) (fun h => ed_is (ed_op (ed_var (d := sD bk) rfl) (ed_tup (ea_cons ed_int ea_nil) (Nat.le_of_ble_eq_true rfl)) (rv_cat ?q3)) ?q2)) ea_nil)) ?_)
    case q1 =>
      have : p.2 < 3 := by have := of_decide_eq_true h; omega
      unfold Ma.needsOf
      rw [if_pos this]
    case q2 =>
      have : ¬ p.2 < 3 := by have := of_decide_eq_false h; omega
      unfold Ma.needsOf sD
      rw [if_neg this, List.map_append]; rfl
    case q3 =>
      rw [List.length_map]; show bk.length + 1 ≤ 100000; omega
    refine wd_seq (wd_enumT (xs := (Ma.needsOf bk p.2).map nD) (ea_cons (ed_var (d := sD (Ma.needsOf bk p.2)) rfl) ea_nil)
      (fun i τ => ∃ (h tu : Nat) (m : List Nat) (x8 x9 x10 x11 x12 : Option D), τ = [some (rD R), some (pkD p), some (tabD t), some (sD m), some (sD bk), some (.int (h : Int)), some (.int (tu : Int)), some (sD (Ma.needsOf bk p.2)), x8, x9, x10, x11, x12] ∧ m.length ≤ 1001 ∧
        Ma.told1 (Ma.loop (fun q => (Ma.lk t q).map some) bk i h tu m ((Ma.needsOf bk p.2).drop i)) = Ma.pairStep R (Ma.lk t) p) ?_ (fun i x τ hx hI => ?_) fun τ hI => ?_)
    · exact ⟨h0, 1, mk, none, none, none, none, none, rfl, by omega, hres.symm⟩
    · obtain ⟨h, tu, m, x8, x9, x10, x11, x12, rfl, hm, hl⟩ := hI
      rw [List.getElem?_map] at hx
      cases hn : (Ma.needsOf bk p.2)[i]? with
      | none => rw [hn] at hx; cases hx
      | some n =>
        rw [hn] at hx
        cases hx
        obtain ⟨hil, hiv⟩ := List.getElem?_eq_some_iff.mp hn
        rw [List.drop_eq_getElem_cons hil, hiv] at hl
        rw [Ma.loop] at hl
        have ekey : EvD K M (tTup (tCons (tVar 5) (tCons (tVar 9) tNil))) [some (rD R), some (pkD p), some (tabD t), some (sD m), some (sD bk), some (.int (h : Int)), some (.int (tu : Int)), some (sD (Ma.needsOf bk p.2)), some (.int (i : Int)), some (nD n), x10, x11, x12] (keyD (kP (h, n))) :=
          ed_tup (ea_cons (ed_var rfl) (ea_cons (ed_var rfl) ea_nil)) (Nat.le_of_ble_eq_true rfl)
        cases hk : Ma.lk t (h, n) with
        | some e =>
          rw [hk] at hl
          refine wd_seq (wd_if (b := false) (et_is (et_B (ed_dninT (k := kP (h, n)) ekey (ed_var (d := tabD t) rfl))) (by rw [look_tab, hk]; rfl)) (fun h => nomatch h) fun _ => wd_next ?_)
          have eget : EvD K M _ _ _ := ed_dgetT (k := kP (h, n)) (d := entL e) (ed_var (d := tabD t) (i := 2) (τ := [some (rD R), some (pkD p), some (tabD t), some (sD m), some (sD bk), some (.int (h : Int)), some (.int (tu : Int)), some (sD (Ma.needsOf bk p.2)), some (.int (i : Int)), some (nD n), x10, x11, x12]) rfl) ekey (by rw [look_tab, hk]; rfl)
          have fine := tk.fine _ _ hk
          obtain ⟨e1', more, handed, left⟩ := e
          have f1 := fine.left
          have f2 := fine.marks
          simp only at f1 f2
          refine wd_seq (wd_asgG eget (gd_lst (gs_cons gd_name (gs_cons gd_name (gs_cons gd_name (gs_cons gd_name gs_nil)))) rfl) ?_)
          refine wd_seq (wd_par (ea_cons (ed_op (ed_var (d := .int (tu : Int)) rfl) (ed_var (d := .int (more : Int)) rfl) rv_add) (ea_cons (ed_slT (lo := none) (hi := some (1001 : Int)) (ed_op (ed_var (d := sD m) rfl) (ed_var (d := sD handed) rfl) (rv_cat (by rw [List.length_map, List.length_map]; omega))) eo_none (eo_some ed_int)) ea_nil)) ?_)
          cases e1' with
          | none =>
            refine wd_if (b := true) (et_is (et_test (ed_op (ed_var (d := .int (-1)) rfl) (ed_un ed_int ru_neg) rv_eqI)) rfl) (fun _ => wd_ret (ed_lst (ea_cons (ed_un ed_int ru_neg) (ea_cons (ed_var rfl) (ea_cons (ed_var rfl) (ea_cons (ed_op (ed_var (d := sD left) rfl) (ed_slT (ed_var (d := sD bk) rfl) (eo_some (ed_op (ed_var rfl) ed_int rv_add)) eo_none) (rv_cat ?_)) ea_nil)))) (Nat.le_of_ble_eq_true rfl)) ?_) (fun h => nomatch h)
            · rw [cutAt, List.length_map, List.length_map, List.length_drop]
              omega
            · rw [← hl]
              show D.lst [.int (-1), .int ((tu : Int) + (more : Int)), .tup (PD.cutD (m.map nD ++ handed.map nD) none (some (1001 : Int))), .tup (left.map nD ++ PD.cutD (bk.map nD) (some ((i : Int) + 1)) none)] = D.lst [.int (-1), .int ((tu + more : Nat) : Int), .tup (((m ++ handed).take 1001).map nD), .tup ((left ++ bk.drop (i + 1)).map nD)]
              rw [cut1001', cutAt, List.map_append, Int.natCast_add]
          | some hh =>
            refine wd_if (b := false) (et_is (et_test (ed_op (ed_var (d := .int (hh : Int)) rfl) (ed_un ed_int ru_neg) rv_eqI)) (decide_eq_false (by omega))) (fun h => nomatch h) (fun _ => wd_next ?_)
            refine ⟨hh, tu + more, (m ++ handed).take 1001, some (.int (i : Int)), some (nD n), some (.int (more : Int)), some (sD handed), some (sD left), ?_, List.length_take_le _ _, hl⟩
            show [some (rD R), some (pkD p), some (tabD t), some (.tup (PD.cutD (m.map nD ++ handed.map nD) none (some (1001 : Int)))), some (sD bk), some (.int (hh : Int)), some (.int ((tu : Int) + (more : Int))), some (sD (Ma.needsOf bk p.2)), some (.int (i : Int)), some (nD n), some (.int (more : Int)), some (sD handed), some (sD left)] = _
            rw [cut1001', ← Int.natCast_add]
            rfl
        | none =>
          rw [hk] at hl
          refine wd_seq (wd_if (b := true) (et_is (et_B (ed_dninT (k := kP (h, n)) ekey (ed_var (d := tabD t) rfl))) (by rw [look_tab, hk]; rfl)) (fun _ => wd_ret ed_non ?_) (fun h => nomatch h))
          rw [← hl]; rfl
    · obtain ⟨h, tu, m, x8, x9, x10, x11, x12, rfl, hm, hl⟩ := hI
      rw [List.length_map, List.drop_length] at hl
      refine wd_ret (ed_lst (ea_cons (ed_var rfl) (ea_cons (ed_var rfl) (ea_cons (ed_var rfl) (ea_cons (ed_tup ea_nil (Nat.le_of_ble_eq_true rfl)) ea_nil)))) (Nat.le_of_ble_eq_true rfl)) ?_
      rw [← hl]; rfl
end
end Sp
namespace Sp
open PySem PySem.Spec PyProof.Rows L2 PD PDX
theorem nats_noT : ∀ l : List Nat, noTs (l.map nD) = true
  | [] => rfl
  | a :: l => by
    rw [List.map_cons]
    unfold noTs nD noT
    exact nats_noT l
theorem sD_noT (l : List Nat) : noT (sD l) = true := by
  unfold sD noT
  exact nats_noT l
theorem eD_noT (o : Option Nat) : noT (eD o) = true := by cases o <;> (unfold eD noT; rfl)
theorem entL_noT (e : Ma.Entry) : noT (entL e) = true := by
  unfold entL noT noTs noTs noTs noTs noTs
  rw [eD_noT, sD_noT, sD_noT]
  unfold noT
  rfl
theorem tabDs_noT : ∀ t : Ma.Tab, noTs (tabDs t) = true
  | [] => rfl
  | (k, e) :: t => by
    unfold tabDs
    rw [List.map_cons]
    unfold noTs
    rw [entL_noT]
    exact tabDs_noT t
theorem optL_noT (o : Option Ma.Entry) : noT (optL o) = true := by
  cases o with
  | none => unfold optL noT; rfl
  | some e => exact entL_noT e
section
variable {P : Program} {w : World} {K : PySem.W.Frag} {mg : Str → Option Value} {base : Heap}
/-- the law's table -/
def fTable : List D → (D → Prop) → Prop := fun ds Pd => ∃ R : Ma.Routine, Ma.VR R ∧ ds = [rD R] ∧ Pd = fun x => x = tabD (Ma.lawTable R)
abbrev nTable : List Str := ["_law_routine", "_law_told_here", "_law_pairs", "_law_post", "_law_turn", "_law_pair_here", "_law_found", "_law_sort"]
theorem scTable : FnScope nTable ["_law_routine"] (defScope (topS 38)) := ⟨rfl, rfl, rfl, by decide +kernel, rfl, by decide +kernel, by decide +kernel⟩
theorem pairs_succ (n : Nat) : Ma.pairsOf (n + 1) = Ma.pairsOf n ++ [(n, 0), (n, 1), (n, 2), (n, 3)] := by
  unfold Ma.pairsOf
  rw [List.range_succ, List.flatMap_append]
  rfl
theorem ok_table (T : Tx K mg) (a : At K mg "_law_table" 38 ["_law_routine"]) (C1 : Cal P w K mg base "_law_pair" 1 ["_law_routine", "_law_pair_here", "_law_told_here"] fPair) : Cal P w K mg base "_law_table" 2 ["_law_routine"] fTable := by
  obtain ⟨f1, fd1, G1, m1, k1, b1⟩ := C1
  refine calD a scTable (fun ds Pd h => by obtain ⟨R, _, rfl, _⟩ := h; rfl) fun f cdv A outer s H E hr => ?_
  have hu := hu_of hr
  refine ⟨_, pss_cons (ps_par (i := 1) (j := 2) rfl scTable.nd rfl rfl (by decide) rfl rfl (pa_cons pe_dnewT (pa_cons (pe_lst pa_nil) pa_nil)) (by rfl))
    (pss_cons (ps_for PassesOwn.never rfl (pi_range1 (by rfl) T.range (pa_cons (pe_callB call_len_seq (by rfl) T.len PySem.boot_len (pa_cons (pv 0) pa_nil)) pa_nil)) (pg_name (i := 3) scTable.nd rfl (.inr rfl))
      (pss_one (ps_set (i := 2) scTable.nd rfl (.inl rfl) (pe_op op_cat (pv 2) (pe_lc (own := [("_law_sort", 7)]) (g := gName 7) rfl scTable.nd (pi_tup (pe_tup (pa_cons pe_int (pa_cons pe_int (pa_cons pe_int (pa_cons pe_int pa_nil)))))) (blkOk_by (own := [("_law_sort", 7)]) (N := nTable) (sc := defScope (topS 38)) (by decide +kernel))
        (fun _ _ _ _ _ => pg_name (i := 7) scTable.nd rfl (Or.inl rfl)) (fun _ _ _ _ _ => pts_nil) (fun _ _ _ _ _ => pe_tup (pa_cons (pv 3) (pa_cons (pv 7) pa_nil))))))))
    (pss_cons (ps_for PassesOwn.never rfl (pi_range1 (by rfl) T.range (pa_cons (pe_op op_add (pe_callB call_len_seq (by rfl) T.len PySem.boot_len (pa_cons (pv 2) pa_nil)) pe_int) pa_nil)) (pg_name (i := 4) scTable.nd rfl (.inl rfl))
      (pss_one (ps_for PassesOwn.never rfl (pi_list (pv 2)) (pg_name (i := 5) scTable.nd rfl (.inl rfl))
        (pss_cons (ps_set (i := 6) scTable.nd rfl (.inl rfl) (pe_ifExp (pt_cmp (pc_dnotin hu (pv 5) (pv 1))) (pe_call G1 hr (by rfl) m1 k1 b1 .nil pass0 (pa_cons (pv 0) (pa_cons (pv 5) (pa_cons (pv 1) pa_nil)))) pe_non))
        (pss_one (ps_if (pt_cmpR op_notN (pv 6) pe_non (nomark _)) (pss_one (ps_dput hu (pv 1) (pv 5) (pv 6) (by rfl))) pss_nil))))))
    (pss_one (ps_ret (pv 1))))), fun M ds Pd h => ?_⟩
  obtain ⟨R, v, rfl, rfl⟩ := h
  have hR := v.hi
  refine wd_own_dict tabD ([] : Ma.Tab) rfl (fun p => ed_lst ea_nil (Nat.le_of_ble_eq_true rfl)) fun p H0 => ?_
  refine wc_seq (wc_range (n := R.length) (by omega) (I := fun i s τ => s = [] ∧ ∃ x3, τ = [some (rD R), some (.adr p), some (linD (Ma.pairsOf i)), x3, none, none, none, none]) ?_ ⟨rfl, none, rfl⟩ (fun i s1 τ1 hi hI => ?_) fun s1 τ1 hI => ?_)
  · refine eac_cons (ec_pure (ed_cb (ea_cons (ed_var (d := rD R) rfl) ea_nil) rc_lenT)) fun s1 d1 h => ?_
    obtain ⟨rfl, rfl⟩ := h
    exact eac_nil ⟨rfl, by rw [List.length_map]⟩
  · obtain ⟨rfl, x3, rfl⟩ := hI
    refine wc_asg (ec_mono (ec_pure (ed_op (ed_var (d := linD (Ma.pairsOf i)) rfl) (ed_lcT (fun _ => true) (fun x => .tup [.int (i : Int), x]) (ed_tup (ea_cons ed_int (ea_cons ed_int (ea_cons ed_int (ea_cons ed_int ea_nil)))) (Nat.le_of_ble_eq_true rfl)) (Nat.le_of_ble_eq_true rfl) (fun x _ M => et_yes) (fun x _ _ M => ed_tup (ea_cons (ed_var rfl) (ea_cons (ed_var rfl) ea_nil)) (Nat.le_of_ble_eq_true rfl))) (rv_catL ?_))) fun s' d h => ?_)
    · rw [List.length_map, Ma.pairs_len]
      show _ + 4 ≤ 100000
      omega
    · obtain ⟨rfl, rfl⟩ := h
      refine ⟨rfl, some (.int (i : Int)), ?_⟩
      rw [pairs_succ]
      unfold linD
      rw [List.map_append]
      rfl
  · obtain ⟨rfl, x3, rfl⟩ := hI
    refine wc_seq (wc_range (n := 4 * R.length + 1) (by omega) (I := fun i s τ => s = Ma.rounds R i ∧ ∃ x4 x5 x6, τ = [some (rD R), some (.adr p), some (linD (Ma.pairsOf R.length)), x3, x4, x5, x6, none]) ?_ ⟨rfl, none, none, none, rfl⟩ (fun i s1 τ1 hi hI => ?_) fun s1 τ1 hI => ?_)
    · refine eac_cons (ec_pure (ed_op (ed_cb (ea_cons (ed_var (d := linD (Ma.pairsOf R.length)) rfl) ea_nil) rc_lenL) ed_int rv_add)) fun s1 d1 h => ?_
      obtain ⟨rfl, rfl⟩ := h
      refine eac_nil ⟨rfl, ?_⟩
      rw [List.length_map, Ma.pairs_len, Int.natCast_add]
      rfl
    · obtain ⟨rfl, x4, x5, x6, rfl⟩ := hI
      refine wc_forL (ed_var (d := linD (Ma.pairsOf R.length)) rfl) (fun s H H' l o => Stab.st s H H' l o) (I := fun j s τ => s = ((Ma.pairsOf R.length).take j).foldl (Ma.stepT R) (Ma.rounds R i) ∧ ∃ x5 x6, τ = [some (rD R), some (.adr p), some (linD (Ma.pairsOf R.length)), x3, some (.int (i : Int)), x5, x6, none]) ⟨rfl, x5, x6, rfl⟩ (fun j x s1 τ1 hx hI => ?_) fun s1 τ1 hI => ?_
      · obtain ⟨es, x5, x6, rfl⟩ := hI
        rw [List.getElem?_map] at hx
        cases hq : (Ma.pairsOf R.length)[j]? with
        | none => rw [hq] at hx; cases hx
        | some q =>
          rw [hq] at hx
          cases hx
          have hqm := List.mem_of_getElem? hq
          have tk : Ma.Tok R s1 := by
            rw [es]
            exact Ma.Tok.fold v (fun q hq => List.mem_of_mem_take hq) (Ma.Tok.rounds v i)
          have htl : s1.length ≤ 24 := by have := tk.len; omega
          refine ⟨_, gd_name, ?_⟩
          have hnext : ((Ma.pairsOf R.length).take (j + 1)).foldl (Ma.stepT R) (Ma.rounds R i) = Ma.stepT R s1 q := by
            rw [List.take_add_one, hq, List.foldl_append, ← es]
            rfl
          refine wc_seq (wc_asg (ec_mono (ec_read (i := 1) (d := if (Ma.lk s1 q).isSome then .non else optL (Ma.pairStep R (Ma.lk s1) q)) rfl (ed_if (b := !(Ma.lk s1 q).isSome) (et_is (et_B (ed_dninT (k := kP q) (ed_var (d := pkD q) rfl) (ed_var (d := tabD s1) rfl))) (by rw [look_tab]; cases Ma.lk s1 q <;> rfl)) (fun hb => ?_) (fun hb => ?_)) ?_) fun s' d h => ?_))
          · have : (Ma.lk s1 q).isSome = false := by simpa using hb
            rw [this]
            exact ed_callD (ea_cons (ed_var (d := rD R) rfl) (ea_cons (ed_var (d := pkD q) rfl) (ea_cons (ed_var (d := tabD s1) rfl) ea_nil))) ⟨R, q, s1, v, hqm, tk, rfl, rfl⟩
          · have : (Ma.lk s1 q).isSome = true := by simpa using hb
            rw [this]
            exact ed_non
          · intro H v' o pv
            obtain ⟨a, ws, ea, _, hws, _⟩ := o.dt_inv
            cases ea
            refine pv.upT hws ?_
            split
            · unfold noT; rfl
            · exact optL_noT _
          · obtain ⟨rfl, rfl⟩ := h
            cases hk : Ma.lk s' q with
            | some e0 =>
              refine wc_if (b := false) (et_is (et_test (ed_op (ed_var (d := .non) rfl) ed_non rv_notN)) rfl) (fun h => nomatch h) fun _ => wc_next ?_
              refine ⟨?_, some (pkD q), some .non, rfl⟩
              rw [hnext]
              unfold Ma.stepT
              rw [hk]; rfl
            | none =>
              cases hs : Ma.pairStep R (Ma.lk s') q with
              | none =>
                refine wc_if (b := false) (et_is (et_test (ed_op (ed_var (d := .non) rfl) ed_non rv_notN)) rfl) (fun h => nomatch h) fun _ => wc_next ?_
                refine ⟨?_, some (pkD q), some .non, rfl⟩
                rw [hnext]
                unfold Ma.stepT
                rw [hk, hs]; rfl
              | some e1 =>
                have hn : kP q ∉ tabKs s' := fun z => by
                  obtain ⟨x, hx, e⟩ := List.mem_map.mp z
                  have := Ma.lk_none hk
                  exact this (List.mem_map.mpr ⟨x, hx, kP_inj e⟩)
                refine wc_if (b := true) (et_is (et_test (ed_op (ed_var (d := entL e1) rfl) ed_non rv_notN)) rfl) (fun _ => wc_dput (i := 1) (s' := s' ++ [(q, e1)]) (ks := tabKs s') (ds := tabDs s') (k := kP q) (d := entL e1) rfl rfl ?_ (ed_var rfl) (ed_var (d := pkD q) rfl) (tabDs_noT s') (entL_noT e1) ?_ (fun i hi => absurd (List.mem_of_getElem? hi) hn) ?_) (fun h => nomatch h)
                · unfold putKs putDs
                  rw [if_neg hn, if_neg hn]
                  unfold tabD tabKs tabDs
                  rw [List.map_append, List.map_append]
                  rfl
                · unfold tabKs
                  rw [List.length_map]
                  omega
                · refine ⟨?_, some (pkD q), some (entL e1), rfl⟩
                  rw [hnext]
                  unfold Ma.stepT
                  rw [hk, hs]; rfl
      · obtain ⟨es, x5, x6, rfl⟩ := hI
        rw [List.length_map, List.take_length] at es
        exact ⟨es, some (.int (i : Int)), x5, x6, rfl⟩
    · obtain ⟨rfl, x4, x5, x6, rfl⟩ := hI
      exact wc_ret (ec_mono (ec_pure (ed_var (d := .adr p) rfl)) fun s' d h => by
        obtain ⟨rfl, rfl⟩ := h
        exact ⟨rfl, rfl⟩)
end
end Sp
namespace PD
open PySem PySem.Spec PyProof.Rows L2 PDX
theorem wc_forTC {K : PySem.W.Frag} {M : Addr → Prop} {S : Type} {J : S → Hp → Prop} {s : S} {τ : Tau} {nx : S → Tau → Prop} {rt : S → D → Prop} {g : TG} {body : TS} {xs : List D} {tl' : TE} (h : EvC K M J tl' s τ (fun s' d => s' = s ∧ d = .tup xs)) (I : Nat → S → Tau → Prop) (h0 : I 0 s τ)
    (hs : ∀ i x s1 τ1, xs[i]? = some x → I i s1 τ1 → ∃ τ2, GD K M g x τ1 τ2 ∧ WC K M J body (I (i + 1)) rt s1 τ2) (hd : ∀ s1 τ1, I xs.length s1 τ1 → nx s1 τ1) : WC K M J (tFor (iTup K tl') g body) nx rt s τ := fun En σ H r j kn kr =>
  h σ H r j _ fun v H1 s0 d0 l0 tr0 j0 p1 ⟨es, ed⟩ => by
    subst es ed
    obtain ⟨a, vs, rfl, n1, h3, h4⟩ := p1.tup_inv
    refine ⟨a, rfl, ⟨vs, .inl (.inl h3)⟩, for_tup (xs := vs) (fun i σ' H' => ∃ s1 τ1, Le M H1 H' ∧ Rel K M H' σ' τ1 ∧ J s1 H' ∧ I i s1 τ1) ⟨s0, τ, Le.refl _ _, r.le l0 tr0, j0, h0⟩ ?_ ?_ ?_⟩
    · rintro i σ' H' _ ⟨s1, τ1, l, _⟩
      exact .inl (.inl (l a _ n1 h3))
    · rintro i x σ' H' hx ⟨s1, τ1, l, r1, j1, hi⟩
      have hl : i < xs.length := by
        have := (List.getElem?_eq_some_iff.mp hx).1
        rw [h4.len] at this
        exact this
      obtain ⟨τ2, hg, hw⟩ := hs i xs[i] s1 τ1 (List.getElem?_eq_getElem hl) hi
      obtain ⟨v, hv, pv⟩ := h4.get (List.getElem?_eq_getElem hl)
      rw [hx] at hv
      cases hv
      refine hg x σ' H' r1 (pv.mono l) _ fun σ2 r2 => ?_
      exact hw _ σ2 H' r2 j1 (fun σ3 H3 τ3 s3 l3 r3 j3 i3 => ⟨s3, τ3, l.trans l3, r3, j3, i3⟩) fun v3 H3 d3 s3 l3 p3 j3 q3 => kr v3 H3 d3 s3 (l0.trans (l.trans l3)) p3 j3 q3
    · rintro σ' H' ⟨s1, τ1, l, r1, j1, hi⟩
      rw [h4.len] at hi
      exact kn σ' H' τ1 s1 (l0.trans l) r1 j1 (hd s1 τ1 hi)
end PD
namespace Sp
open PySem PySem.Spec PyProof.Rows L2 PD PDX
section
variable {P : Program} {w : World} {K : PySem.W.Frag} {mg : Str → Option Value} {base : Heap}
/-- the law's run of a stack -/
def fLawTold : List D → (D → Prop) → Prop := fun ds Pd => ∃ (R : Ma.Routine) (t : Ma.Tab) (l : List Nat), R.length ≤ 6 ∧ Ma.Tok R t ∧ l.length ≤ 60 ∧ ds = [tabD t, sD l] ∧ Pd = fun x => x = runD (Ma.toldOn (Ma.lk t) l)
abbrev nLawTold : List Str := ["_law_told_here", "_law_stack", "_law_here", "_law_turns", "_law_marks", "_law_at", "_law_sort", "_law_more", "_law_handed", "_law_left"]
theorem scLawTold : FnScope nLawTold ["_law_told_here", "_law_stack"] (defScope (topS 39)) := ⟨rfl, rfl, rfl, by decide +kernel, rfl, by decide +kernel, by decide +kernel⟩
theorem ok_lawTold (T : Tx K mg) (a : At K mg "_law_told" 39 ["_law_told_here", "_law_stack"]) : Cal P w K mg base "_law_told" 1 ["_law_told_here", "_law_stack"] fLawTold := by
  refine calD a scLawTold (fun ds Pd h => by obtain ⟨R, t, l, _, _, _, rfl, _⟩ := h; rfl) fun f cdv A outer s H E hr => ?_
  have hu := hu_of hr
  refine ⟨_, pss_cons (ps_asg (pe_tup (pa_cons pe_int (pa_cons pe_int (pa_cons (pe_tup pa_nil) pa_nil)))) (pg_tup rfl (pgs_cons (pg_name (i := 2) scLawTold.nd rfl (.inl rfl)) (pgs_cons (pg_name (i := 3) scLawTold.nd rfl (.inl rfl)) (pgs_cons (pg_name (i := 4) scLawTold.nd rfl (.inl rfl)) pgs_nil)))))
    (pss_cons (ps_for PassesOwn.never rfl (pi_enumT (by rfl) T.enum (pa_cons (pe_op op_catA (pv 1) (pe_tup (pa_cons pe_int pa_nil))) pa_nil))
      (pg_tup rfl (pgs_cons (pg_name (i := 5) scLawTold.nd rfl (.inl rfl)) (pgs_cons (pg_name (i := 6) scLawTold.nd rfl (.inl rfl)) pgs_nil)))
      (pss_cons (ps_if (pt_cmp (pc_dnotin hu (pe_tup (pa_cons (pv 2) (pa_cons (pv 6) pa_nil))) (pv 0))) (pss_one (ps_ret (pe_tup (pa_cons pe_str pa_nil)))) pss_nil)
      (pss_cons (ps_asg (pe_dget hu (pv 0) (pe_tup (pa_cons (pv 2) (pa_cons (pv 6) pa_nil))) (fun _ _ => rfl)) (pg_lst rfl (pgs_cons (pg_name (i := 2) scLawTold.nd rfl (.inl rfl)) (pgs_cons (pg_name (i := 7) scLawTold.nd rfl (.inl rfl)) (pgs_cons (pg_name (i := 8) scLawTold.nd rfl (.inl rfl)) (pgs_cons (pg_name (i := 9) scLawTold.nd rfl (.inl rfl)) pgs_nil))))))
      (pss_cons (ps_par (i := 3) (j := 4) rfl scLawTold.nd rfl rfl (by decide) rfl rfl (pa_cons (pe_op op_add (pv 3) (pv 7)) (pa_cons (pe_slice sl_tupA (pe_op op_catA (pv 4) (pv 8)) po_none (po_some pe_int)) pa_nil)) (by rfl))
      (pss_one (ps_if (pt_cmpR op_eq (pv 2) (pe_un un_neg pe_int) (nomark _)) (pss_one (ps_ret (pe_tup (pa_cons pe_str (pa_cons (pv 4) (pa_cons (pe_op op_catA (pv 9) (pe_slice sl_tupA (pv 1) (po_some (pe_op op_add (pv 5) pe_int)) po_none)) (pa_cons (pv 3) pa_nil))))))) pss_nil))))))
    (pss_one (ps_ret (pe_tup (pa_cons pe_str pa_nil))))), fun M ds Pd h => ?_⟩
  obtain ⟨R, t, l, hR, tk, hl60, rfl, rfl⟩ := h
  have htl : t.length ≤ 24 := by have := tk.len; omega
  refine wd_seq (wd_asgG (ed_tup (ea_cons ed_int (ea_cons ed_int (ea_cons (ed_tup ea_nil (Nat.le_of_ble_eq_true rfl)) ea_nil))) (Nat.le_of_ble_eq_true rfl)) (gd_tup (gs_cons gd_name (gs_cons gd_name (gs_cons gd_name gs_nil))) rfl) ?_)
  refine wd_seq (wd_enumT (xs := (l ++ [3]).map nD) (ea_cons (ed_is (ed_op (ed_var (d := sD l) rfl) (ed_tup (ea_cons ed_int ea_nil) (Nat.le_of_ble_eq_true rfl)) (rv_cat ?q1)) ?q2) ea_nil)
    (fun i τ => ∃ (h tu : Nat) (m : List Nat) (x5 x6 x7 x8 x9 : Option D), τ = [some (tabD t), some (sD l), some (.int (h : Int)), some (.int (tu : Int)), some (sD m), x5, x6, x7, x8, x9] ∧ m.length ≤ 1001 ∧
      Ma.run (Ma.lk t) l i h tu m ((l ++ [3]).drop i) = Ma.toldOn (Ma.lk t) l) ?_ (fun i x τ hx hI => ?_) fun τ hI => ?_)
  case q1 => rw [List.length_map]; show l.length + 1 ≤ 100000; omega
  case q2 => rw [List.map_append]; rfl
  · exact ⟨0, 0, [], none, none, none, none, none, rfl, by simp, rfl⟩
  · obtain ⟨h, tu, m, x5, x6, x7, x8, x9, rfl, hm, hrun⟩ := hI
    rw [List.getElem?_map] at hx
    cases hn : (l ++ [3])[i]? with
    | none => rw [hn] at hx; cases hx
    | some n =>
      rw [hn] at hx
      cases hx
      obtain ⟨hil, hiv⟩ := List.getElem?_eq_some_iff.mp hn
      rw [List.drop_eq_getElem_cons hil, hiv, Ma.run] at hrun
      have ekey : EvD K M (tTup (tCons (tVar 2) (tCons (tVar 6) tNil))) [some (tabD t), some (sD l), some (.int (h : Int)), some (.int (tu : Int)), some (sD m), some (.int (i : Int)), some (nD n), x7, x8, x9] (keyD (kP (h, n))) :=
        ed_tup (ea_cons (ed_var rfl) (ea_cons (ed_var rfl) ea_nil)) (Nat.le_of_ble_eq_true rfl)
      cases hs : Ma.lk t (h, n) with
      | none =>
        rw [hs] at hrun
        refine wd_seq (wd_if (b := true) (et_is (et_B (ed_dninT (k := kP (h, n)) ekey (ed_var (d := tabD t) rfl))) (by rw [look_tab, hs]; rfl)) (fun _ => wd_ret (ed_tup (ea_cons ed_str ea_nil) (Nat.le_of_ble_eq_true rfl)) ?_) (fun h => nomatch h))
        rw [← hrun]; rfl
      | some e =>
        rw [hs] at hrun
        refine wd_seq (wd_if (b := false) (et_is (et_B (ed_dninT (k := kP (h, n)) ekey (ed_var (d := tabD t) rfl))) (by rw [look_tab, hs]; rfl)) (fun h => nomatch h) fun _ => wd_next ?_)
        have eget : EvD K M _ _ _ := ed_dgetT (k := kP (h, n)) (d := entL e) (ed_var (d := tabD t) (i := 0) (τ := [some (tabD t), some (sD l), some (.int (h : Int)), some (.int (tu : Int)), some (sD m), some (.int (i : Int)), some (nD n), x7, x8, x9]) rfl) ekey (by rw [look_tab, hs]; rfl)
        have fine := tk.fine _ _ hs
        obtain ⟨e1', more, handed, left⟩ := e
        have f1 := fine.left
        have f2 := fine.marks
        simp only at f1 f2
        refine wd_seq (wd_asgG eget (gd_lst (gs_cons gd_name (gs_cons gd_name (gs_cons gd_name (gs_cons gd_name gs_nil)))) rfl) ?_)
        refine wd_seq (wd_par (ea_cons (ed_op (ed_var (d := .int (tu : Int)) rfl) (ed_var (d := .int (more : Int)) rfl) rv_add) (ea_cons (ed_slT (lo := none) (hi := some (1001 : Int)) (ed_op (ed_var (d := sD m) rfl) (ed_var (d := sD handed) rfl) (rv_cat (by rw [List.length_map, List.length_map]; omega))) eo_none (eo_some ed_int)) ea_nil)) ?_)
        cases e1' with
        | none =>
          refine wd_if (b := true) (et_is (et_test (ed_op (ed_var (d := .int (-1)) rfl) (ed_un ed_int ru_neg) rv_eqI)) rfl) (fun _ => wd_ret (ed_tup (ea_cons ed_str (ea_cons (ed_var rfl) (ea_cons (ed_op (ed_var (d := sD left) rfl) (ed_slT (ed_var (d := sD l) rfl) (eo_some (ed_op (ed_var rfl) ed_int rv_add)) eo_none) (rv_cat ?_)) (ea_cons (ed_var rfl) ea_nil)))) (Nat.le_of_ble_eq_true rfl)) ?_) (fun h => nomatch h)
          · rw [cutAt, List.length_map, List.length_map, List.length_drop]; omega
          · rw [← hrun]
            show D.tup [.str "rest", .tup (PD.cutD (m.map nD ++ handed.map nD) none (some (1001 : Int))), .tup (left.map nD ++ PD.cutD (l.map nD) (some ((i : Int) + 1)) none), .int ((tu : Int) + (more : Int))] = D.tup [.str "rest", .tup (((m ++ handed).take 1001).map nD), .tup ((left ++ l.drop (i + 1)).map nD), .int ((tu + more : Nat) : Int)]
            rw [cut1001', cutAt, List.map_append, Int.natCast_add]
        | some hh' =>
          refine wd_if (b := false) (et_is (et_test (ed_op (ed_var (d := .int (hh' : Int)) rfl) (ed_un ed_int ru_neg) rv_eqI)) (decide_eq_false (by omega))) (fun h => nomatch h) (fun _ => wd_next ?_)
          refine ⟨hh', tu + more, (m ++ handed).take 1001, some (.int (i : Int)), some (nD n), some (.int (more : Int)), some (sD handed), some (sD left), ?_, List.length_take_le _ _, hrun⟩
          show [some (tabD t), some (sD l), some (.int (hh' : Int)), some (.int ((tu : Int) + (more : Int))), some (.tup (PD.cutD (m.map nD ++ handed.map nD) none (some (1001 : Int)))), some (.int (i : Int)), some (nD n), some (.int (more : Int)), some (sD handed), some (sD left)] = _
          rw [cut1001', ← Int.natCast_add]
          rfl
  · obtain ⟨h, tu, m, x5, x6, x7, x8, x9, rfl, hm, hrun⟩ := hI
    rw [List.length_map, List.drop_length] at hrun
    refine wd_ret (ed_tup (ea_cons ed_str ea_nil) (Nat.le_of_ble_eq_true rfl)) ?_
    rw [← hrun]; rfl
/-- the posts that the law reaches -/
theorem nD_cast (f : List Nat) : f.map nD = (f.map fun (n : Nat) => (n : Int)).map D.int := by rw [List.map_map]; rfl
theorem mem_cast (h : Nat) (f : List Nat) : decide ((h : Int) ∈ f.map fun (n : Nat) => (n : Int)) = decide (h ∈ f) := by
  rw [decide_eq_decide, List.mem_map]
  constructor
  · rintro ⟨x, hx, e⟩
    have : x = h := by omega
    exact this ▸ hx
  · intro hx
    exact ⟨h, hx, rfl⟩
def fLawLed : List D → (D → Prop) → Prop := fun ds Pd => ∃ (R : Ma.Routine) (t : Ma.Tab), R.length ≤ 6 ∧ Ma.Tok R t ∧ ds = [tabD t] ∧ Pd = fun x => x = .lst ((Ma.lawLed (Ma.lk t)).map nD)
abbrev nLawLed : List Str := ["_law_told_here", "_law_found", "_law_post", "_law_sort", "_law_end"]
theorem scLawLed : FnScope nLawLed ["_law_told_here"] (defScope (topS 40)) := ⟨rfl, rfl, rfl, by decide +kernel, rfl, by decide +kernel, by decide +kernel⟩
def ledS (look : Ma.Look) (p : Nat) : List Nat → Nat → List Nat := fun f s => match Ma.dl look p s with
  | some h => if h ∈ f then f else f ++ [h]
  | none => f
theorem ledS_len (look : Ma.Look) (p : Nat) (f : List Nat) (s : Nat) : (ledS look p f s).length ≤ f.length + 1 := by
  unfold ledS
  split
  · split
    · omega
    · rw [List.length_append]; exact Nat.le_refl _
  · omega
theorem ledStep_eq (look : Ma.Look) (p : Nat) (f : List Nat) : Ma.ledStep look f p = (if p ∈ f then [0, 1, 2] else []).foldl (ledS look p) f := by
  unfold Ma.ledStep
  split <;> rfl
theorem foldl_len {α β : Type} (g : List β → α → List β) (k : Nat) (hg : ∀ f a, (g f a).length ≤ f.length + k) : ∀ (l : List α) (f : List β), (l.foldl g f).length ≤ f.length + k * l.length
  | [], f => by simp
  | a :: l, f => by
    have := foldl_len g k hg l (g f a)
    have h2 := hg f a
    rw [List.foldl_cons, List.length_cons, Nat.mul_succ]
    omega
theorem ledStep_len (look : Ma.Look) (f : List Nat) (p : Nat) : (Ma.ledStep look f p).length ≤ f.length + 3 := by
  rw [ledStep_eq]
  have := foldl_len (ledS look p) 1 (ledS_len look p) (if p ∈ f then [0, 1, 2] else []) f
  have h2 : (if p ∈ f then [0, 1, 2] else ([] : List Nat)).length ≤ 3 := by split <;> simp
  omega
theorem ok_lawLed (T : Tx K mg) (a : At K mg "_law_led" 40 ["_law_told_here"]) : Cal P w K mg base "_law_led" 1 ["_law_told_here"] fLawLed := by
  refine calD a scLawLed (fun ds Pd h => by obtain ⟨R, t, _, _, rfl, _⟩ := h; rfl) fun f cdv A outer s H E hr => ?_
  have hu := hu_of hr
  refine ⟨_, pss_cons (ps_set (i := 1) scLawLed.nd rfl (.inl rfl) (pe_lst (pa_cons pe_int pa_nil)))
    (pss_cons (ps_for PassesOwn.never rfl (pi_tup (pe_op op_repT (pe_tup (pa_cons pe_int (pa_cons pe_int (pa_cons pe_int (pa_cons pe_int (pa_cons pe_int (pa_cons pe_int pa_nil))))))) pe_int)) (pg_name (i := 2) scLawLed.nd rfl (.inl rfl))
      (pss_one (ps_for PassesOwn.never rfl (pi_tup (pe_ifExp (pt_cmpR op_in_seq (pv 2) (pv 1) (by rfl)) (pe_tup (pa_cons pe_int (pa_cons pe_int (pa_cons pe_int pa_nil)))) (pe_tup pa_nil))) (pg_name (i := 3) scLawLed.nd rfl (.inl rfl))
        (pss_cons (ps_set (i := 4) scLawLed.nd rfl (.inl rfl) (pe_ix ix_list (pe_dget2 hu (pv 0) (pe_tup (pa_cons (pv 2) (pa_cons (pv 3) pa_nil))) (pe_lst (pa_cons (pe_un un_neg pe_int) pa_nil)) ⟨by rfl, by rfl, by rfl, by rfl⟩) pe_int (fun _ _ => rfl)))
        (pss_one (ps_if (PW.pt (pw_and (pt_cmpR op_ne (pv 4) (pe_un un_neg pe_int) (nomark _)) (pw_and1 (pt_cmpR op_notIn_seq (pv 4) (pv 1) (by rfl)))))
          (pss_one (ps_expr (pe_bm PySem.F.plainAttrs_list PySem.F.slot_list_append PySem.F.type_list_append mt_append (pv 1) (pa_cons (pv 4) pa_nil)))) pss_nil))))))
    (pss_one (ps_ret (pv 1)))), fun M ds Pd h => ?_⟩
  obtain ⟨R, t, hR, tk, rfl, rfl⟩ := h
  refine wd_own_lst (S := List Nat) (ea_cons ed_int ea_nil) (Nat.le_of_ble_eq_true rfl) (fun f => .lst (f.map nD)) [0] rfl fun p H0 => ?_
  refine wc_seq (wc_forT (xs := ((List.replicate 6 [0, 1, 2, 3, 4, 5]).flatten).map nD) (ed_is (ed_op (ed_tup (ea_cons ed_int (ea_cons ed_int (ea_cons ed_int (ea_cons ed_int (ea_cons ed_int (ea_cons ed_int ea_nil)))))) (Nat.le_of_ble_eq_true rfl)) ed_int (rv_rep (by decide) (by decide) (by intro z; cases z) (by decide))) rfl) (fun s H H' l o => Stab.st s H H' l o)
    (I := fun i s τ => s = (((List.replicate 6 [0, 1, 2, 3, 4, 5]).flatten).take i).foldl (Ma.ledStep (Ma.lk t)) [0] ∧ ∃ x2 x3 x4, τ = [some (tabD t), some (.adr p), x2, x3, x4]) ⟨rfl, none, none, none, rfl⟩ (fun i x s1 τ1 hx hI => ?_) fun s1 τ1 hI => ?_)
  · obtain ⟨es, x2, x3, x4, rfl⟩ := hI
    rw [List.getElem?_map] at hx
    cases hq : ((List.replicate 6 [0, 1, 2, 3, 4, 5]).flatten)[i]? with
    | none => rw [hq] at hx; cases hx
    | some q =>
      rw [hq] at hx
      cases hx
      have hs1l : s1.length ≤ 200 := by
        rw [es]
        have := foldl_len (Ma.ledStep (Ma.lk t)) 3 (ledStep_len (Ma.lk t)) (((List.replicate 6 [0, 1, 2, 3, 4, 5]).flatten).take i) [0]
        have h2 : (((List.replicate 6 [0, 1, 2, 3, 4, 5]).flatten).take i).length ≤ 36 := by
          rw [List.length_take]
          exact Nat.min_le_right _ _
        have h3 : ([0] : List Nat).length = 1 := rfl
        omega
      have hnext : (((List.replicate 6 [0, 1, 2, 3, 4, 5]).flatten).take (i + 1)).foldl (Ma.ledStep (Ma.lk t)) [0] = (if q ∈ s1 then [0, 1, 2] else []).foldl (ledS (Ma.lk t) q) s1 := by
        rw [List.take_add_one, hq, List.foldl_append, ← es, ← ledStep_eq]
        rfl
      refine ⟨_, gd_name, wc_forTC (xs := (if q ∈ s1 then [0, 1, 2] else []).map nD) (ec_read (i := 1) rfl (ed_if (b := decide (q ∈ s1)) (et_is (et_test (ed_op (ed_var (d := .int (q : Int)) rfl) (ed_is (ed_var (d := .lst (s1.map nD)) rfl) (congrArg D.lst (nD_cast s1))) rv_inL)) (mem_cast q s1)) (fun hb => ?_) (fun hb => ?_)) ?_)
        (I := fun j s τ => s = ((if q ∈ s1 then [0, 1, 2] else []).take j).foldl (ledS (Ma.lk t) q) s1 ∧ ∃ x3 x4, τ = [some (tabD t), some (.adr p), some (nD q), x3, x4]) ⟨rfl, x3, x4, rfl⟩ (fun j x s2 τ2 hx hI => ?_) fun s2 τ2 hI => ?_⟩
      · rw [if_pos (of_decide_eq_true hb)]
        exact ed_tup (ea_cons ed_int (ea_cons ed_int (ea_cons ed_int ea_nil))) (Nat.le_of_ble_eq_true rfl)
      · rw [if_neg (of_decide_eq_false hb)]
        exact ed_tup ea_nil (Nat.le_of_ble_eq_true rfl)
      · intro H v' o pv
        obtain ⟨a, ws, ea, _, hws, _⟩ := o.lst_inv
        cases ea
        obtain ⟨b, vs, rfl, nb, hb, hv⟩ := pv.tup_inv
        refine Rp.tup (fun z => z.elim nb fun e => ?_) hb (flat_lst (fun n => ⟨n, rfl⟩) hv)
        subst e
        rw [hws] at hb
        cases hb
      · obtain ⟨es2, x3, x4, rfl⟩ := hI
        rw [List.getElem?_map] at hx
        cases hr2 : (if q ∈ s1 then [0, 1, 2] else ([] : List Nat))[j]? with
        | none => rw [hr2] at hx; cases hx
        | some sr =>
          rw [hr2] at hx
          cases hx
          have hs2l : s2.length ≤ 203 := by
            rw [es2]
            have := foldl_len (ledS (Ma.lk t) q) 1 (ledS_len (Ma.lk t) q) ((if q ∈ s1 then [0, 1, 2] else []).take j) s1
            have h2 : ((if q ∈ s1 then [0, 1, 2] else ([] : List Nat)).take j).length ≤ 3 := by
              rw [List.length_take]
              split <;> simp <;> omega
            omega
          have hnext2 : ((if q ∈ s1 then [0, 1, 2] else []).take (j + 1)).foldl (ledS (Ma.lk t) q) s1 = ledS (Ma.lk t) q s2 sr := by
            rw [List.take_add_one, hr2, List.foldl_append, ← es2]
            rfl
          refine ⟨_, gd_name, ?_⟩
          refine wc_seq (wc_asg (ec_mono (ec_pure (ed_op (ed_dget2T (k := kP (q, sr)) (ed_var (d := tabD t) rfl) (ed_tup (ea_cons (ed_var (d := nD q) rfl) (ea_cons (ed_var (d := nD sr) rfl) ea_nil)) (Nat.le_of_ble_eq_true rfl)) (ed_lst (ea_cons (ed_un ed_int ru_neg) ea_nil) (Nat.le_of_ble_eq_true rfl)) (d1 := .lst (eD (Ma.dl (Ma.lk t) q sr) :: match Ma.lk t (q, sr) with | some e => [.int (e.2.1 : Int), sD e.2.2.1, sD e.2.2.2] | none => [])) ?_) ed_int (rv_ixL (d := eD (Ma.dl (Ma.lk t) q sr)) (L2.atI_nat (j := 0) rfl)))) fun s' d h => ?_))
          · rw [look_tab]
            unfold Ma.dl
            cases Ma.lk t (q, sr) with
            | none => rfl
            | some e =>
              obtain ⟨e1, e2⟩ := e
              cases e1 <;> rfl
          · obtain ⟨rfl, rfl⟩ := h
            cases hdl : Ma.dl (Ma.lk t) q sr with
            | none =>
              have hl : ledS (Ma.lk t) q s' sr = s' := by unfold ledS; rw [hdl]
              refine wc_ifC (etc_read (i := 1) (b := false) rfl (et_is (et_and (et_test (ed_op (ed_var (d := .int (-1)) rfl) (ed_un ed_int ru_neg) rv_neI)) (b := true) (fun h => nomatch h)) rfl)) (fun s3 h => nomatch h.2) fun s3 h => wc_next ?_
              obtain ⟨rfl, _⟩ := h
              exact ⟨(hnext2.trans hl).symm, some (nD sr), some (.int (-1)), rfl⟩
            | some hh =>
              have hl : ledS (Ma.lk t) q s' sr = if hh ∈ s' then s' else s' ++ [hh] := by unfold ledS; rw [hdl]
              refine wc_ifC (etc_read (i := 1) (b := !decide (hh ∈ s')) rfl (et_is (et_and (et_test (ed_op (ed_var (d := .int (hh : Int)) rfl) (ed_un ed_int ru_neg) rv_neI)) (fun _ => et_test (ed_op (ed_var (d := .int (hh : Int)) rfl) (ed_is (ed_var (d := .lst (s'.map nD)) rfl) (congrArg D.lst (nD_cast s'))) rv_niL))) ?_)) (fun s3 h => ?_) fun s3 h => wc_next ?_
              · rw [mem_cast, decide_eq_false (show ¬ (hh : Int) = -1 by omega)]
                rfl
              · obtain ⟨rfl, h⟩ := h
                have hm : hh ∉ s3 := fun z => by rw [decide_eq_true z] at h; cases h
                refine wc_append (i := 1) (f := nD) (fun n => ⟨n, rfl⟩) (ns := s3) (n := hh) (s' := s3 ++ [hh]) rfl rfl rfl (ed_var rfl) (by omega) ⟨?_, some (nD sr), some (.int (hh : Int)), rfl⟩
                rw [hnext2, hl, if_neg hm]
              · obtain ⟨rfl, h⟩ := h
                have hm : hh ∈ s3 := by
                  by_cases z : hh ∈ s3
                  · exact z
                  · rw [decide_eq_false z] at h; cases h
                refine ⟨?_, some (nD sr), some (.int (hh : Int)), rfl⟩
                rw [hnext2, hl, if_pos hm]
      · obtain ⟨es2, x3, x4, rfl⟩ := hI
        rw [List.length_map, List.take_length] at es2
        exact ⟨es2.trans hnext.symm, some (nD q), x3, x4, rfl⟩
  · obtain ⟨es, x2, x3, x4, rfl⟩ := hI
    rw [List.length_map, List.take_length] at es
    exact wc_ret (ec_mono (ec_pure (ed_var (d := .adr p) rfl)) fun s' d h => by
      obtain ⟨rfl, rfl⟩ := h
      refine ⟨rfl, ?_⟩
      show D.lst (s'.map nD) = _
      rw [es]
      rfl)
end
end Sp
namespace Sp
open PySem PySem.Spec PyProof.Rows L2 PD PDX
section
variable {P : Program} {w : World} {K : PySem.W.Frag} {mg : Str → Option Value} {base : Heap}
/-- every post that the law reaches rests -/
def fRests : List D → (D → Prop) → Prop := fun ds Pd => ∃ (R : Ma.Routine) (t : Ma.Tab), R.length ≤ 6 ∧ Ma.Tok R t ∧ ds = [tabD t] ∧ Pd = fun x => x = .bl (Ma.lawRests (Ma.lk t))
abbrev nRests : List Str := ["_law_told_here", "_law_post", "_law_sort"]
theorem scRests : FnScope nRests ["_law_told_here"] (defScope (topS 41)) := ⟨rfl, rfl, rfl, by decide +kernel, rfl, by decide +kernel, by decide +kernel⟩
def lacks (look : Ma.Look) (q : Nat) : D → Bool
  | .int i => !(look (q, i.toNat)).isSome
  | _ => false
theorem lacks_nD (look : Ma.Look) (q s : Nat) : lacks look q (nD s) = !(look (q, s)).isSome := rfl
theorem lacks_list (look : Ma.Look) (q : Nat) : (([0, 1, 2, 3].map nD).filter (lacks look q)).map (fun x => x) = ([0, 1, 2, 3].filter fun s => !(look (q, s)).isSome).map nD := by
  rw [List.map_id', List.filter_map]
  rfl
theorem lacks_nil (look : Ma.Look) (q : Nat) : decide (([0, 1, 2, 3].filter fun s => !(look (q, s)).isSome) = []) = [0, 1, 2, 3].all fun s => (look (q, s)).isSome := by
  have h : (([0, 1, 2, 3].filter fun s => !(look (q, s)).isSome) = []) ↔ ([0, 1, 2, 3].all fun s => (look (q, s)).isSome) = true := by
    rw [List.filter_eq_nil_iff, List.all_eq_true]
    constructor
    · intro h s hs
      have := h s hs
      cases hl : (look (q, s)).isSome with
      | true => rfl
      | false => rw [hl] at this; exact absurd rfl this
    · intro h s hs
      have := h s hs
      simp only [this]
      exact Bool.false_ne_true
  by_cases c : ([0, 1, 2, 3].all fun s => (look (q, s)).isSome) = true
  · rw [c, decide_eq_true (h.mpr c)]
  · rw [Bool.not_eq_true] at c
    rw [c, decide_eq_false (fun z => by rw [h.mp z] at c; cases c)]
theorem ok_rests (T : Tx K mg) (a : At K mg "_law_rests" 41 ["_law_told_here"]) (C1 : Cal P w K mg base "_law_led" 1 ["_law_told_here"] fLawLed) : Cal P w K mg base "_law_rests" 2 ["_law_told_here"] fRests := by
  obtain ⟨f1, fd1, G1, m1, k1, b1⟩ := C1
  refine calD a scRests (fun ds Pd h => by obtain ⟨R, t, _, _, rfl, _⟩ := h; rfl) fun f cdv A outer s H E hr => ?_
  have hu := hu_of hr
  refine ⟨_, pss_cons (ps_for PassesOwn.never rfl (pi_list (pe_call G1 hr (by rfl) m1 k1 b1 .nil pass0 (pa_cons (pv 0) pa_nil))) (pg_name (i := 1) scRests.nd rfl (.inr rfl))
      (pss_one (ps_if (pt_cmpR (op_neD hr.units) (pe_lc (own := [("_law_sort", 2)]) (g := gName 2) rfl scRests.nd (pi_tup (pe_tup (pa_cons pe_int (pa_cons pe_int (pa_cons pe_int (pa_cons pe_int pa_nil)))))) (blkOk_by (own := [("_law_sort", 2)]) (N := nRests) (sc := defScope (topS 41)) (by decide +kernel))
        (fun _ _ _ _ _ => pg_name (i := 2) scRests.nd rfl (Or.inl rfl)) (fun _ _ _ _ _ => pts_one (pt_cmp (pc_dnotin hu (pe_tup (pa_cons (pv 1) (pa_cons (pv 2) pa_nil))) (pv 0)))) (fun _ _ _ _ _ => pv 2)) (pe_lst pa_nil) (nomark _)) (pss_one (ps_ret pe_bl)) pss_nil)))
    (pss_one (ps_ret pe_bl)), fun M ds Pd h => ?_⟩
  obtain ⟨R, t, hR, tk, rfl, rfl⟩ := h
  refine wd_seq (wd_forL (xs := (Ma.lawLed (Ma.lk t)).map nD) (ed_callD (ea_cons (ed_var (d := tabD t) rfl) ea_nil) ⟨R, t, hR, tk, rfl, rfl⟩)
    (fun i τ => (((Ma.lawLed (Ma.lk t)).take i).all fun p => [0, 1, 2, 3].all fun s => (Ma.lk t (p, s)).isSome) = true ∧ ∃ x1, τ = [some (tabD t), x1, none]) ⟨rfl, none, rfl⟩ (fun i x τ hx hI => ?_) fun τ hI => ?_)
  · obtain ⟨hall, x1, rfl⟩ := hI
    rw [List.getElem?_map] at hx
    cases hq : (Ma.lawLed (Ma.lk t))[i]? with
    | none => rw [hq] at hx; cases hx
    | some q =>
      rw [hq] at hx
      cases hx
      have hqm := List.mem_of_getElem? hq
      refine ⟨_, gd_name, wd_if (b := !([0, 1, 2, 3].all fun s => (Ma.lk t (q, s)).isSome)) (et_is (et_test (ed_op (ed_is (ed_lcT (lacks (Ma.lk t) q) (fun x => x) (ed_tup (ea_cons ed_int (ea_cons ed_int (ea_cons ed_int (ea_cons ed_int ea_nil)))) (Nat.le_of_ble_eq_true rfl)) (Nat.le_of_ble_eq_true rfl) (fun x hx M => ?_) (fun x _ _ M => ed_var rfl)) (congrArg D.lst (lacks_list (Ma.lk t) q))) (ed_lst ea_nil (Nat.le_of_ble_eq_true rfl)) (rv_neD (nD_no _) rfl (nD_room _) (by decide)))) (by rw [lst_nil, lacks_nil])) (fun hb => ?_) fun hb => wd_next ?_⟩
      · have : ∃ s : Nat, x = nD s := by
          obtain ⟨s, _, e⟩ := List.mem_map.mp (show x ∈ [0, 1, 2, 3].map nD from hx)
          exact ⟨s, e.symm⟩
        obtain ⟨s, rfl⟩ := this
        rw [lacks_nD]
        exact et_is (et_B (ed_dninT (k := kP (q, s)) (ed_tup (ea_cons (ed_var (d := nD q) rfl) (ea_cons (ed_var (d := nD s) rfl) ea_nil)) (Nat.le_of_ble_eq_true rfl)) (ed_var (d := tabD t) rfl))) (by rw [look_tab]; cases Ma.lk t (q, s) <;> rfl)
      · refine wd_ret ed_bl ?_
        have : Ma.lawRests (Ma.lk t) = false := by
          by_cases c : Ma.lawRests (Ma.lk t) = true
          · unfold Ma.lawRests at c
            rw [List.all_eq_true] at c
            rw [c q hqm] at hb
            cases hb
          · simpa using c
        rw [this]
      · refine ⟨?_, some (nD q), rfl⟩
        rw [List.take_add_one, hq, List.all_append, hall]
        show (true && ((([0, 1, 2, 3].all fun s => (Ma.lk t (q, s)).isSome)) && true)) = true
        have : ([0, 1, 2, 3].all fun s => (Ma.lk t (q, s)).isSome) = true := by simpa using hb
        rw [this]; rfl
  · obtain ⟨hall, x1, rfl⟩ := hI
    rw [List.length_map, List.take_length] at hall
    refine wd_ret ed_bl ?_
    have : Ma.lawRests (Ma.lk t) = true := hall
    rw [this]
/-- the short stacks -/
def fStacks : List D → (D → Prop) → Prop := fun ds Pd => ∃ k : Nat, k ≤ 4 ∧ ds = [.int (k : Int)] ∧ Pd = fun x => x = .lst ((Ma.stacksN k).1.map sD)
abbrev nStacks : List Str := ["_law_longest", "_law_found", "_law_now", "_law_turn", "_law_later", "_law_stack", "_law_sort"]
theorem scStacks : FnScope nStacks ["_law_longest"] (defScope (topS 42)) := ⟨rfl, rfl, rfl, by decide +kernel, rfl, by decide +kernel, by decide +kernel⟩
theorem stacks_size (k : Nat) (h : k ≤ 4) : (Ma.stacksN k).1.length ≤ 1000 ∧ (Ma.stacksN k).2.length ≤ 1000 ∧ ∀ s ∈ (Ma.stacksN k).2, s.length ≤ 10 := by
  have : k = 0 ∨ k = 1 ∨ k = 2 ∨ k = 3 ∨ k = 4 := by omega
  rcases this with rfl | rfl | rfl | rfl | rfl <;> exact ⟨by decide +kernel, by decide +kernel, by decide +kernel⟩
theorem later_len (now : List (List Nat)) : (Ma.laterOf now).length = 3 * now.length := by
  induction now with
  | nil => rfl
  | cons a l ih =>
    have e : Ma.laterOf (a :: l) = [a ++ [0], a ++ [1], a ++ [2]] ++ Ma.laterOf l := rfl
    rw [e, List.length_append, ih]
    show 3 + 3 * l.length = 3 * (l.length + 1)
    omega
theorem ok_stacks (T : Tx K mg) (a : At K mg "_law_stacks" 42 ["_law_longest"]) : Cal P w K mg base "_law_stacks" 1 ["_law_longest"] fStacks := by
  refine calD a scStacks (fun ds Pd h => by obtain ⟨k, _, rfl, _⟩ := h; rfl) fun f cdv A outer s H E hr => ?_
  refine ⟨_, pss_cons (ps_par (i := 1) (j := 2) rfl scStacks.nd rfl rfl (by decide) rfl rfl (pa_cons (pe_lst (pa_cons (pe_tup pa_nil) pa_nil)) (pa_cons (pe_lst (pa_cons (pe_tup pa_nil) pa_nil)) pa_nil)) (by rfl))
    (pss_cons (ps_for PassesOwn.never rfl (pi_range1 (by rfl) T.range (pa_cons (pv 0) pa_nil)) (pg_name (i := 3) scStacks.nd rfl (.inl rfl))
      (pss_cons (ps_set (i := 4) scStacks.nd rfl (.inl rfl) (pe_lst pa_nil))
      (pss_cons (ps_for PassesOwn.never rfl (pi_list (pv 2)) (pg_name (i := 5) scStacks.nd rfl (.inr rfl))
        (pss_one (ps_set (i := 4) scStacks.nd rfl (.inl rfl) (pe_op op_cat (pv 4) (pe_lc (own := [("_law_sort", 6)]) (g := gName 6) rfl scStacks.nd (pi_tup (pe_tup (pa_cons pe_int (pa_cons pe_int (pa_cons pe_int pa_nil))))) (blkOk_by (own := [("_law_sort", 6)]) (N := nStacks) (sc := defScope (topS 42)) (by decide +kernel))
          (fun _ _ _ _ _ => pg_name (i := 6) scStacks.nd rfl (Or.inl rfl)) (fun _ _ _ _ _ => pts_nil) (fun _ _ _ _ _ => pe_op (catK K) (pv 5) (pe_tup (pa_cons (pv 6) pa_nil))))))))
      (pss_one (ps_par (i := 1) (j := 2) rfl scStacks.nd rfl rfl (by decide) rfl rfl (pa_cons (pe_op op_cat (pv 1) (pv 4)) (pa_cons (pv 4) pa_nil)) (by rfl))))))
    (pss_one (ps_ret (pv 1)))), fun M ds Pd h => ?_⟩
  obtain ⟨k, hk, rfl, rfl⟩ := h
  refine wd_seq (wd_par (ea_cons (ed_lst (ea_cons (ed_tup ea_nil (Nat.le_of_ble_eq_true rfl)) ea_nil) (Nat.le_of_ble_eq_true rfl)) (ea_cons (ed_lst (ea_cons (ed_tup ea_nil (Nat.le_of_ble_eq_true rfl)) ea_nil) (Nat.le_of_ble_eq_true rfl)) ea_nil)) ?_)
  refine wd_seq (wd_range (n := k) (by omega) (ea_cons (ed_var rfl) ea_nil) (fun i τ => ∃ x3 x4 x5, τ = [some (.int (k : Int)), some (.lst ((Ma.stacksN i).1.map sD)), some (.lst ((Ma.stacksN i).2.map sD)), x3, x4, x5, none]) ⟨none, none, none, rfl⟩ (fun i τ hi hI => ?_) fun τ hI => ?_)
  · obtain ⟨x3, x4, x5, rfl⟩ := hI
    obtain ⟨z1, z2, z3⟩ := stacks_size i (by omega)
    generalize hnw : (Ma.stacksN i).2 = now at z2 z3
    refine wd_seq (wd_asg (ed_lst ea_nil (Nat.le_of_ble_eq_true rfl)) ?_)
    refine wd_seq (wd_forL (xs := now.map sD) (ed_var (d := .lst (now.map sD)) rfl) (fun j τ => ∃ x5, τ = [some (.int (k : Int)), some (.lst ((Ma.stacksN i).1.map sD)), some (.lst (now.map sD)), some (.int (i : Int)), some (.lst ((Ma.laterOf (now.take j)).map sD)), x5, none]) ⟨x5, rfl⟩ (fun j x τ hx hI => ?_) fun τ hI => ?_)
    · obtain ⟨x5, rfl⟩ := hI
      rw [List.getElem?_map] at hx
      cases hq : now[j]? with
      | none => rw [hq] at hx; cases hx
      | some st =>
        rw [hq] at hx
        cases hx
        have hst := z3 st (List.mem_of_getElem? hq)
        have hlt : (Ma.laterOf (now.take j)).length ≤ 3000 := by
          rw [later_len, List.length_take]; omega
        refine ⟨_, gd_name, wd_asg (ed_op (ed_var (d := .lst ((Ma.laterOf (now.take j)).map sD)) rfl) (ed_lcT (fun _ => true) (fun x => .tup (st.map nD ++ [x])) (ed_tup (ea_cons ed_int (ea_cons ed_int (ea_cons ed_int ea_nil))) (Nat.le_of_ble_eq_true rfl)) (Nat.le_of_ble_eq_true rfl) (fun x _ M => et_yes) (fun x _ _ M => ed_op (ed_var (d := sD st) rfl) (ed_tup (ea_cons (ed_var rfl) ea_nil) (Nat.le_of_ble_eq_true rfl)) (rv_cat ?_))) (rv_catL ?_)) ⟨some (sD st), ?_⟩⟩
        · rw [List.length_map]
          show st.length + 1 ≤ 100000
          omega
        · rw [List.length_map]
          show _ + 3 ≤ 100000
          omega
        · have e1 : Ma.laterOf (now.take (j + 1)) = Ma.laterOf (now.take j) ++ [st ++ [0], st ++ [1], st ++ [2]] := by
            unfold Ma.laterOf
            rw [List.take_add_one, hq, List.flatMap_append]
            rfl
          have e2 : [st ++ [0], st ++ [1], st ++ [2]].map sD = [.tup (st.map nD ++ [nD 0]), .tup (st.map nD ++ [nD 1]), .tup (st.map nD ++ [nD 2])] := by
            show [sD (st ++ [0]), sD (st ++ [1]), sD (st ++ [2])] = _
            unfold sD
            rw [List.map_append, List.map_append, List.map_append]
            rfl
          rw [e1, List.map_append, e2]
          rfl
    · obtain ⟨x5, rfl⟩ := hI
      rw [List.length_map, List.take_length]
      refine wd_par (ea_cons (ed_op (ed_var (d := .lst ((Ma.stacksN i).1.map sD)) rfl) (ed_var (d := .lst ((Ma.laterOf now).map sD)) rfl) (rv_catL ?_)) (ea_cons (ed_var (d := .lst ((Ma.laterOf now).map sD)) rfl) ea_nil)) ⟨some (.int (i : Int)), some (.lst ((Ma.laterOf now).map sD)), x5, ?_⟩
      · rw [List.length_map, List.length_map, later_len]; omega
      · have e1 : (Ma.stacksN (i + 1)).1 = (Ma.stacksN i).1 ++ Ma.laterOf now := by rw [← hnw]; rfl
        have e2 : (Ma.stacksN (i + 1)).2 = Ma.laterOf now := by rw [← hnw]; rfl
        rw [e1, e2, List.map_append]
        rfl
  · obtain ⟨x3, x4, x5, rfl⟩ := hI
    exact wd_ret (ed_var rfl) rfl
def litR : Ma.Routine := [[([0], [], some 0), ([1], [0], some 1), ([], [1, 1], some 0), ([2], [], none)], [([], [], some 0), ([], [], none), ([2], [2], some 0), ([], [0], some 0)]]
def litU : Ma.Routine := [[([], [0], some 0), ([], [], some 0), ([], [1, 2], some 0), ([], [], none)]]
def litV : Ma.Routine := [[([], [], some 0), ([0, 0], [], some 0), ([], [2], some 1), ([1], [], none)], [([], [], some 1), ([], [], some 1), ([], [], none), ([], [], none)]]
def fLit (R : Ma.Routine) : List D → (D → Prop) → Prop := fun ds Pd => ds = [] ∧ Pd = fun x => x = rD R
theorem scR : FnScope ["_law_first"] [] (defScope (topS 43)) := ⟨rfl, rfl, rfl, by decide +kernel, rfl, by decide +kernel, by decide +kernel⟩
theorem ok_r (a : At K mg "_law_r" 43 []) : Cal P w K mg base "_law_r" 1 [] (fLit litR) := by
  refine calD a scR (fun ds Pd h => by obtain ⟨rfl, _⟩ := h; rfl) fun f cdv A outer s H E hr => ?_
  refine ⟨_, pss_cons (ps_set (i := 0) scR.nd rfl (.inl rfl) (pe_tup (pa_cons (pe_tup (pa_cons (pe_tup (pa_cons pe_int pa_nil)) (pa_cons (pe_tup pa_nil) (pa_cons pe_int pa_nil)))) (pa_cons (pe_tup (pa_cons (pe_tup (pa_cons pe_int pa_nil)) (pa_cons (pe_tup (pa_cons pe_int pa_nil)) (pa_cons pe_int pa_nil)))) (pa_cons (pe_tup (pa_cons (pe_tup pa_nil) (pa_cons (pe_tup (pa_cons pe_int (pa_cons pe_int pa_nil))) (pa_cons pe_int pa_nil)))) (pa_cons (pe_tup (pa_cons (pe_tup (pa_cons pe_int pa_nil)) (pa_cons (pe_tup pa_nil) (pa_cons (pe_un un_neg pe_int) pa_nil)))) pa_nil)))))) (pss_one (ps_ret (pe_tup (pa_cons (pv 0) (pa_cons (pe_tup (pa_cons (pe_tup (pa_cons (pe_tup pa_nil) (pa_cons (pe_tup pa_nil) (pa_cons pe_int pa_nil)))) (pa_cons (pe_tup (pa_cons (pe_tup pa_nil) (pa_cons (pe_tup pa_nil) (pa_cons (pe_un un_neg pe_int) pa_nil)))) (pa_cons (pe_tup (pa_cons (pe_tup (pa_cons pe_int pa_nil)) (pa_cons (pe_tup (pa_cons pe_int pa_nil)) (pa_cons pe_int pa_nil)))) (pa_cons (pe_tup (pa_cons (pe_tup pa_nil) (pa_cons (pe_tup (pa_cons pe_int pa_nil)) (pa_cons pe_int pa_nil)))) pa_nil))))) pa_nil))))), fun M ds Pd h => ?_⟩
  obtain ⟨rfl, rfl⟩ := h
  exact wd_seq (wd_asg (ed_tup (ea_cons (ed_tup (ea_cons (ed_tup (ea_cons ed_int ea_nil) (Nat.le_of_ble_eq_true rfl)) (ea_cons (ed_tup ea_nil (Nat.le_of_ble_eq_true rfl)) (ea_cons ed_int ea_nil))) (Nat.le_of_ble_eq_true rfl)) (ea_cons (ed_tup (ea_cons (ed_tup (ea_cons ed_int ea_nil) (Nat.le_of_ble_eq_true rfl)) (ea_cons (ed_tup (ea_cons ed_int ea_nil) (Nat.le_of_ble_eq_true rfl)) (ea_cons ed_int ea_nil))) (Nat.le_of_ble_eq_true rfl)) (ea_cons (ed_tup (ea_cons (ed_tup ea_nil (Nat.le_of_ble_eq_true rfl)) (ea_cons (ed_tup (ea_cons ed_int (ea_cons ed_int ea_nil)) (Nat.le_of_ble_eq_true rfl)) (ea_cons ed_int ea_nil))) (Nat.le_of_ble_eq_true rfl)) (ea_cons (ed_tup (ea_cons (ed_tup (ea_cons ed_int ea_nil) (Nat.le_of_ble_eq_true rfl)) (ea_cons (ed_tup ea_nil (Nat.le_of_ble_eq_true rfl)) (ea_cons (ed_un ed_int ru_neg) ea_nil))) (Nat.le_of_ble_eq_true rfl)) ea_nil)))) (Nat.le_of_ble_eq_true rfl)) (wd_ret (ed_tup (ea_cons (ed_var rfl) (ea_cons (ed_tup (ea_cons (ed_tup (ea_cons (ed_tup ea_nil (Nat.le_of_ble_eq_true rfl)) (ea_cons (ed_tup ea_nil (Nat.le_of_ble_eq_true rfl)) (ea_cons ed_int ea_nil))) (Nat.le_of_ble_eq_true rfl)) (ea_cons (ed_tup (ea_cons (ed_tup ea_nil (Nat.le_of_ble_eq_true rfl)) (ea_cons (ed_tup ea_nil (Nat.le_of_ble_eq_true rfl)) (ea_cons (ed_un ed_int ru_neg) ea_nil))) (Nat.le_of_ble_eq_true rfl)) (ea_cons (ed_tup (ea_cons (ed_tup (ea_cons ed_int ea_nil) (Nat.le_of_ble_eq_true rfl)) (ea_cons (ed_tup (ea_cons ed_int ea_nil) (Nat.le_of_ble_eq_true rfl)) (ea_cons ed_int ea_nil))) (Nat.le_of_ble_eq_true rfl)) (ea_cons (ed_tup (ea_cons (ed_tup ea_nil (Nat.le_of_ble_eq_true rfl)) (ea_cons (ed_tup (ea_cons ed_int ea_nil) (Nat.le_of_ble_eq_true rfl)) (ea_cons ed_int ea_nil))) (Nat.le_of_ble_eq_true rfl)) ea_nil)))) (Nat.le_of_ble_eq_true rfl)) ea_nil)) (Nat.le_of_ble_eq_true rfl)) rfl))
theorem scV : FnScope ["_law_first"] [] (defScope (topS 45)) := ⟨rfl, rfl, rfl, by decide +kernel, rfl, by decide +kernel, by decide +kernel⟩
theorem ok_v (a : At K mg "_law_v" 45 []) : Cal P w K mg base "_law_v" 1 [] (fLit litV) := by
  refine calD a scV (fun ds Pd h => by obtain ⟨rfl, _⟩ := h; rfl) fun f cdv A outer s H E hr => ?_
  refine ⟨_, pss_cons (ps_set (i := 0) scV.nd rfl (.inl rfl) (pe_tup (pa_cons (pe_tup (pa_cons (pe_tup pa_nil) (pa_cons (pe_tup pa_nil) (pa_cons pe_int pa_nil)))) (pa_cons (pe_tup (pa_cons (pe_tup (pa_cons pe_int (pa_cons pe_int pa_nil))) (pa_cons (pe_tup pa_nil) (pa_cons pe_int pa_nil)))) (pa_cons (pe_tup (pa_cons (pe_tup pa_nil) (pa_cons (pe_tup (pa_cons pe_int pa_nil)) (pa_cons pe_int pa_nil)))) (pa_cons (pe_tup (pa_cons (pe_tup (pa_cons pe_int pa_nil)) (pa_cons (pe_tup pa_nil) (pa_cons (pe_un un_neg pe_int) pa_nil)))) pa_nil)))))) (pss_one (ps_ret (pe_tup (pa_cons (pv 0) (pa_cons (pe_tup (pa_cons (pe_tup (pa_cons (pe_tup pa_nil) (pa_cons (pe_tup pa_nil) (pa_cons pe_int pa_nil)))) (pa_cons (pe_tup (pa_cons (pe_tup pa_nil) (pa_cons (pe_tup pa_nil) (pa_cons pe_int pa_nil)))) (pa_cons (pe_tup (pa_cons (pe_tup pa_nil) (pa_cons (pe_tup pa_nil) (pa_cons (pe_un un_neg pe_int) pa_nil)))) (pa_cons (pe_tup (pa_cons (pe_tup pa_nil) (pa_cons (pe_tup pa_nil) (pa_cons (pe_un un_neg pe_int) pa_nil)))) pa_nil))))) pa_nil))))), fun M ds Pd h => ?_⟩
  obtain ⟨rfl, rfl⟩ := h
  exact wd_seq (wd_asg (ed_tup (ea_cons (ed_tup (ea_cons (ed_tup ea_nil (Nat.le_of_ble_eq_true rfl)) (ea_cons (ed_tup ea_nil (Nat.le_of_ble_eq_true rfl)) (ea_cons ed_int ea_nil))) (Nat.le_of_ble_eq_true rfl)) (ea_cons (ed_tup (ea_cons (ed_tup (ea_cons ed_int (ea_cons ed_int ea_nil)) (Nat.le_of_ble_eq_true rfl)) (ea_cons (ed_tup ea_nil (Nat.le_of_ble_eq_true rfl)) (ea_cons ed_int ea_nil))) (Nat.le_of_ble_eq_true rfl)) (ea_cons (ed_tup (ea_cons (ed_tup ea_nil (Nat.le_of_ble_eq_true rfl)) (ea_cons (ed_tup (ea_cons ed_int ea_nil) (Nat.le_of_ble_eq_true rfl)) (ea_cons ed_int ea_nil))) (Nat.le_of_ble_eq_true rfl)) (ea_cons (ed_tup (ea_cons (ed_tup (ea_cons ed_int ea_nil) (Nat.le_of_ble_eq_true rfl)) (ea_cons (ed_tup ea_nil (Nat.le_of_ble_eq_true rfl)) (ea_cons (ed_un ed_int ru_neg) ea_nil))) (Nat.le_of_ble_eq_true rfl)) ea_nil)))) (Nat.le_of_ble_eq_true rfl)) (wd_ret (ed_tup (ea_cons (ed_var rfl) (ea_cons (ed_tup (ea_cons (ed_tup (ea_cons (ed_tup ea_nil (Nat.le_of_ble_eq_true rfl)) (ea_cons (ed_tup ea_nil (Nat.le_of_ble_eq_true rfl)) (ea_cons ed_int ea_nil))) (Nat.le_of_ble_eq_true rfl)) (ea_cons (ed_tup (ea_cons (ed_tup ea_nil (Nat.le_of_ble_eq_true rfl)) (ea_cons (ed_tup ea_nil (Nat.le_of_ble_eq_true rfl)) (ea_cons ed_int ea_nil))) (Nat.le_of_ble_eq_true rfl)) (ea_cons (ed_tup (ea_cons (ed_tup ea_nil (Nat.le_of_ble_eq_true rfl)) (ea_cons (ed_tup ea_nil (Nat.le_of_ble_eq_true rfl)) (ea_cons (ed_un ed_int ru_neg) ea_nil))) (Nat.le_of_ble_eq_true rfl)) (ea_cons (ed_tup (ea_cons (ed_tup ea_nil (Nat.le_of_ble_eq_true rfl)) (ea_cons (ed_tup ea_nil (Nat.le_of_ble_eq_true rfl)) (ea_cons (ed_un ed_int ru_neg) ea_nil))) (Nat.le_of_ble_eq_true rfl)) ea_nil)))) (Nat.le_of_ble_eq_true rfl)) ea_nil)) (Nat.le_of_ble_eq_true rfl)) rfl))
theorem scU : FnScope [] [] (defScope (topS 44)) := ⟨rfl, rfl, rfl, by decide +kernel, rfl, by decide +kernel, by decide +kernel⟩
theorem ok_u (a : At K mg "_law_u" 44 []) : Cal P w K mg base "_law_u" 1 [] (fLit litU) := by
  refine calD a scU (fun ds Pd h => by obtain ⟨rfl, _⟩ := h; rfl) fun f cdv A outer s H E hr => ?_
  refine ⟨_, pss_one (ps_ret (pe_tup (pa_cons (pe_tup (pa_cons (pe_tup (pa_cons (pe_tup pa_nil) (pa_cons (pe_tup (pa_cons pe_int pa_nil)) (pa_cons pe_int pa_nil)))) (pa_cons (pe_tup (pa_cons (pe_tup pa_nil) (pa_cons (pe_tup pa_nil) (pa_cons pe_int pa_nil)))) (pa_cons (pe_tup (pa_cons (pe_tup pa_nil) (pa_cons (pe_tup (pa_cons pe_int (pa_cons pe_int pa_nil))) (pa_cons pe_int pa_nil)))) (pa_cons (pe_tup (pa_cons (pe_tup pa_nil) (pa_cons (pe_tup pa_nil) (pa_cons (pe_un un_neg pe_int) pa_nil)))) pa_nil))))) pa_nil))), fun M ds Pd h => ?_⟩
  obtain ⟨rfl, rfl⟩ := h
  exact wd_ret (ed_tup (ea_cons (ed_tup (ea_cons (ed_tup (ea_cons (ed_tup ea_nil (Nat.le_of_ble_eq_true rfl)) (ea_cons (ed_tup (ea_cons ed_int ea_nil) (Nat.le_of_ble_eq_true rfl)) (ea_cons ed_int ea_nil))) (Nat.le_of_ble_eq_true rfl)) (ea_cons (ed_tup (ea_cons (ed_tup ea_nil (Nat.le_of_ble_eq_true rfl)) (ea_cons (ed_tup ea_nil (Nat.le_of_ble_eq_true rfl)) (ea_cons ed_int ea_nil))) (Nat.le_of_ble_eq_true rfl)) (ea_cons (ed_tup (ea_cons (ed_tup ea_nil (Nat.le_of_ble_eq_true rfl)) (ea_cons (ed_tup (ea_cons ed_int (ea_cons ed_int ea_nil)) (Nat.le_of_ble_eq_true rfl)) (ea_cons ed_int ea_nil))) (Nat.le_of_ble_eq_true rfl)) (ea_cons (ed_tup (ea_cons (ed_tup ea_nil (Nat.le_of_ble_eq_true rfl)) (ea_cons (ed_tup ea_nil (Nat.le_of_ble_eq_true rfl)) (ea_cons (ed_un ed_int ru_neg) ea_nil))) (Nat.le_of_ble_eq_true rfl)) ea_nil)))) (Nat.le_of_ble_eq_true rfl)) ea_nil) (Nat.le_of_ble_eq_true rfl)) rfl
end
end Sp
namespace Sp
open PySem PySem.Spec PyProof.Rows L2 PD PDX
def nevD : D := .tup [.str "never"]
theorem nev_shaped : SeqAt.shaped (toP nevD) = true := by decide +kernel
theorem runD_no (o : Option (List Nat × List Nat × Nat)) : noD (runD o) = true := by
  cases o with
  | none => rfl
  | some r =>
    unfold runD noD noDs noDs noDs noDs noDs
    rw [sD_no, sD_no]
    rfl
theorem runD_shaped (o : Option (List Nat × List Nat × Nat)) : SeqAt.shaped (toP (runD o)) = true := by
  cases o with
  | none => exact nev_shaped
  | some r =>
    have e : toP (runD (some r)) = .tuple [.str "rest", toP (sD r.1), toP (sD r.2.1), .int (r.2.2 : Int)] := rfl
    rw [e]
    refine shaped_tup _ fun p hp => ?_
    have h1 := sortsP_room r.1
    have h2 := sortsP_room r.2.1
    rcases List.mem_cons.mp hp with e | hp
    · subst e
      exact ⟨by unfold PyData.canLay0; decide +kernel, by unfold PyData.depth; omega⟩
    · rcases List.mem_cons.mp hp with e | hp
      · subst e; exact ⟨h1.1, by omega⟩
      · rcases List.mem_cons.mp hp with e | hp
        · subst e; exact ⟨h2.1, by omega⟩
        · rw [List.mem_singleton.mp hp]
          exact int_room _
theorem runD_eqv (o : Option (List Nat × List Nat × Nat)) : PyData.eqv (toP (runD o)) (toP nevD) = o.isNone := by
  cases o with
  | none => decide
  | some r =>
    have e : toP (runD (some r)) = .tuple [.str "rest", toP (sD r.1), toP (sD r.2.1), .int (r.2.2 : Int)] := rfl
    have e2 : toP nevD = .tuple [.str "never"] := rfl
    rw [e, e2]
    rfl
def notSort : D → Bool
  | .int i => !decide (i ∈ ([0, 1, 2] : List Int))
  | _ => false
theorem notSort_none (l : List Nat) (h : ∀ s ∈ l, s < 3) : ((l.map nD).filter notSort).map (fun x => x) = [] := by
  rw [List.map_id', List.filter_eq_nil_iff]
  intro x hx
  obtain ⟨n, hn, rfl⟩ := List.mem_map.mp hx
  have := h n hn
  have : n = 0 ∨ n = 1 ∨ n = 2 := by omega
  rcases this with rfl | rfl | rfl <;> decide
section
variable {P : Program} {w : World} {K : PySem.W.Frag} {mg : Str → Option Value} {base : Heap}
def fRight : List D → (D → Prop) → Prop := fun ds Pd => ∃ R : Ma.Routine, Ma.VR R ∧ ds = [rD R] ∧ Pd = fun x => x = .bl true
abbrev nRight : List Str := ["_law_routine", "_law_table_here", "_law_told_here", "_law_stack", "_law_line"]
theorem scRight : FnScope nRight ["_law_routine"] (defScope (topS 46)) := ⟨rfl, rfl, rfl, by decide +kernel, rfl, by decide +kernel, by decide +kernel⟩
theorem ok_right (T : Tx K mg) (a : At K mg "_law_right" 46 ["_law_routine"]) (C1 : Cal P w K mg base "_law_table" 2 ["_law_routine"] fTable) (C2 : Cal P w K mg base "endless_stack" 6 ["routine"] fLeast) (C3 : Cal P w K mg base "_law_rests" 2 ["_law_told_here"] fRests)
    (C4 : Cal P w K mg base "_law_told" 1 ["_law_told_here", "_law_stack"] fLawTold) (C5 : Cal P w K mg base "told_on" 6 ["routine", "stack"] fToldOn) (C6 : Cal P w K mg base "_law_stacks" 1 ["_law_longest"] fStacks) : Cal P w K mg base "_law_right" 7 ["_law_routine"] fRight := by
  obtain ⟨f1, fd1, G1, m1, k1, b1⟩ := C1
  obtain ⟨f2, fd2, G2, m2, k2, b2⟩ := C2
  obtain ⟨f3, fd3, G3, m3, k3, b3⟩ := C3
  obtain ⟨f4, fd4, G4, m4, k4, b4⟩ := C4
  obtain ⟨f5, fd5, G5, m5, k5, b5⟩ := C5
  obtain ⟨f6, fd6, G6, m6, k6, b6⟩ := C6
  refine calD a scRight (fun ds Pd h => by obtain ⟨R, _, rfl, _⟩ := h; rfl) fun f cdv A outer s H E hr => ?_
  have hu := hu_of hr
  refine ⟨_, pss_cons (ps_par (i := 1) (j := 2) rfl scRight.nd rfl rfl (by decide) rfl rfl (pa_cons (pe_call G1 (hr.mono (by decide)) (by rfl) m1 k1 b1 .nil pass0 (pa_cons (pv 0) pa_nil)) (pa_cons (pe_call G2 hr (by rfl) m2 k2 b2 .nil pass0 (pa_cons (pv 0) pa_nil)) pa_nil)) (by rfl))
    (pss_cons (ps_if (pt_cmpR op_isN (pv 2) pe_non (nomark _)) (pss_one (ps_ret (pe_call G3 (hr.mono (by decide)) (by rfl) m3 k3 b3 .nil pass0 (pa_cons (pv 1) pa_nil)))) pss_nil)
    (pss_cons (ps_if (PW.pt (pw_or (pt_not (pt_val (pe_callB call_isi (by rfl) T.isi (by decide +kernel) (pa_cons (pv 2) (pa_cons (pe_bltn (v := .ty "tuple") (by rfl) T.tuple (by decide +kernel) rfl) pa_nil)))))
        (pw_or (pt_cmpR op_gt (pe_callB call_len_seq (by rfl) T.len PySem.boot_len (pa_cons (pv 2) pa_nil)) pe_int (nomark _))
        (pw_or1 (pt_cmpR (op_neD hr.units) (pe_lc (own := [("_law_line", 4)]) (g := gName 4) rfl scRight.nd (pi_tup (pv 2)) (blkOk_by (own := [("_law_line", 4)]) (N := nRight) (sc := defScope (topS 46)) (by decide +kernel))
          (fun _ _ _ _ _ => pg_name (i := 4) scRight.nd rfl (Or.inl rfl)) (fun _ _ _ _ _ => pts_one (pt_cmpR (niK K) (pv 4) (pe_tup (pa_cons pe_int (pa_cons pe_int (pa_cons pe_int pa_nil)))) (by rfl))) (fun _ _ _ _ _ => pv 4)) (pe_lst pa_nil) (nomark _)))))) (pss_one (ps_ret pe_bl)) pss_nil)
    (pss_cons (ps_if (PW.pt (pw_or (pt_cmpR (op_neD hr.units) (pe_call G4 (hr.mono (by decide)) (by rfl) m4 k4 b4 .nil pass0 (pa_cons (pv 1) (pa_cons (pv 2) pa_nil))) (pe_tup (pa_cons pe_str pa_nil)) (nomark _))
        (pw_or1 (pt_cmpR (op_neD hr.units) (pe_call G5 hr (by rfl) m5 k5 b5 .nil pass0 (pa_cons (pv 0) (pa_cons (pv 2) pa_nil))) (pe_tup (pa_cons pe_str pa_nil)) (nomark _))))) (pss_one (ps_ret pe_bl)) pss_nil)
    (pss_cons (ps_for PassesOwn.never rfl (pi_list (pe_call G6 (hr.mono (by decide)) (by rfl) m6 k6 b6 .nil pass0 (pa_cons (pe_callB (call_min2 rfl) (by rfl) T.min (by decide +kernel) (pa_cons pe_int (pa_cons (pe_callB call_len_seq (by rfl) T.len PySem.boot_len (pa_cons (pv 2) pa_nil)) pa_nil))) pa_nil))) (pg_name (i := 3) scRight.nd rfl (.inl rfl))
      (pss_cons (ps_if (pt_cmpR (op_eqD hr.units) (pv 3) (pv 2) (nomark _)) (pss_one (ps_ret pe_bl)) pss_nil)
      (pss_one (ps_if (pt_cmpR (op_eqD hr.units) (pe_call G4 (hr.mono (by decide)) (by rfl) m4 k4 b4 .nil pass0 (pa_cons (pv 1) (pa_cons (pv 3) pa_nil))) (pe_tup (pa_cons pe_str pa_nil)) (nomark _)) (pss_one (ps_ret pe_bl)) pss_nil))))
    (pss_one (ps_ret (pe_cmpR op_gt (pe_callB call_len_seq (by rfl) T.len PySem.boot_len (pa_cons (pv 2) pa_nil)) pe_int (nomark _)))))))), fun M ds Pd h => ?_⟩
  obtain ⟨R, v, rfl, rfl⟩ := h
  have tk := Ma.tok v
  have good := Ma.sem_good v
  refine wd_seq (wd_par (ea_cons (ed_callD (ea_cons (ed_var (d := rD R) rfl) ea_nil) ⟨R, v, rfl, rfl⟩) (ea_cons (ed_callD (ea_cons (ed_var (d := rD R) rfl) ea_nil) ⟨R, v, rfl, rfl⟩) ea_nil)) ?_)
  cases hm : Ma.leastM (Ma.sem R) with
  | none =>
    have hr := Ma.rests_ok good v.lo v.hi hm
    refine wd_seq (wd_if (b := true) (et_is (et_test (ed_op (ed_var (d := .non) rfl) ed_non rv_isN)) rfl) (fun _ => wd_ret (ed_callD (ea_cons (ed_var (d := tabD (Ma.lawTable R)) rfl) ea_nil) ⟨R, Ma.lawTable R, v.hi, tk, rfl, rfl⟩) ?_) (fun h => nomatch h))
    show D.bl (Ma.lawRests (Ma.sem R)) = _
    rw [hr]
  | some W =>
    obtain ⟨w1, w2, w3, w4⟩ := Ma.least_never good v.lo v.hi hm
    have hchk := Ma.right_ok good v.lo v.hi hm
    refine wd_seq (wd_if (b := false) (et_is (et_test (ed_op (ed_var (d := sD W) rfl) ed_non rv_isN)) rfl) (fun h => nomatch h) fun _ => wd_next ?_)
    refine wd_seq (wd_if (b := false) (et_is (et_or (et_not (et_B (ed_cb (ea_cons (ed_var (d := sD W) rfl) (ea_cons ed_ty ea_nil)) (rc_isiT (b := true) (by decide +kernel))))) fun _ => et_or (et_test (ed_op (ed_cb (ea_cons (ed_var (d := sD W) rfl) ea_nil) rc_lenT) ed_int rv_gt)) fun _ =>
      et_test (ed_op (ed_is (ed_lcT notSort (fun x => x) (ed_var (d := sD W) rfl) (by rw [List.length_map]; omega) (fun x hx M => ?_) (fun x _ _ M => ed_var rfl)) (congrArg D.lst (notSort_none W w2))) (ed_lst ea_nil (Nat.le_of_ble_eq_true rfl)) (rv_neD rfl rfl (by decide) (by decide)))) ?_) (fun h => nomatch h) fun _ => wd_next ?_)
    · obtain ⟨n, _, rfl⟩ := List.mem_map.mp hx
      exact et_test (ed_op (ed_var (d := .int (n : Int)) rfl) (ed_is (ed_tup (ea_cons ed_int (ea_cons ed_int (ea_cons ed_int ea_nil))) (Nat.le_of_ble_eq_true rfl)) (show D.tup [.int 0, .int 1, .int 2] = .tup (([0, 1, 2] : List Int).map D.int) from rfl)) rv_niT)
    · have : decide ((6 : Int) < ((W.map nD).length : Int)) = false := decide_eq_false (by rw [List.length_map]; omega)
      rw [this]
      decide
    have et : ∀ (l : List Nat) (τ : Tau) (te : TE), l.length ≤ 60 → EvD K M te τ (tabD (Ma.lawTable R)) → True := fun _ _ _ _ _ => True.intro
    refine wd_seq (wd_if (b := false) (et_is (et_or (et_test (ed_op (e := nevD) (ed_callD (d := runD (Ma.toldOn (Ma.sem R) W)) (ea_cons (ed_var (d := tabD (Ma.lawTable R)) rfl) (ea_cons (ed_var (d := sD W) rfl) ea_nil)) ⟨R, Ma.lawTable R, W, v.hi, tk, by omega, rfl, rfl⟩) (ed_tup (ea_cons ed_str ea_nil) (Nat.le_of_ble_eq_true rfl)) (rv_neD (runD_no _) rfl (runD_shaped _) nev_shaped))) fun _ =>
      et_test (ed_op (e := nevD) (ed_callD (d := runD (Ma.toldOn (Ma.sem R) W)) (ea_cons (ed_var (d := rD R) rfl) (ea_cons (ed_var (d := sD W) rfl) ea_nil)) ⟨R, W, v, by omega, w2, (fun r hr => by rw [w3] at hr; cases hr), rfl, rfl⟩) (ed_tup (ea_cons ed_str ea_nil) (Nat.le_of_ble_eq_true rfl)) (rv_neD (runD_no _) rfl (runD_shaped _) nev_shaped))) ?_) (fun h => nomatch h) fun _ => wd_next ?_)
    · rw [runD_eqv, w3]; rfl
    obtain ⟨s1, s2, s3⟩ := Ma.stacks_up (min 4 W.length) (Nat.min_le_left _ _)
    refine wd_seq (wd_forL (xs := (Ma.stacksN (min 4 W.length)).1.map sD) (ed_callD (ea_cons (ed_is (ed_cb (ea_cons ed_int (ea_cons (ed_cb (ea_cons (ed_var (d := sD W) rfl) ea_nil) rc_lenT) ea_nil)) rc_min2) ?_) ea_nil) ⟨min 4 W.length, Nat.min_le_left _ _, rfl, rfl⟩)
      (fun i τ => Ma.chk (Ma.sem R) W ((Ma.stacksN (min 4 W.length)).1.drop i) = true ∧ ∃ x3, τ = [some (rD R), some (tabD (Ma.lawTable R)), some (sD W), x3, none]) ⟨hchk, none, rfl⟩ (fun i x τ hx hI => ?_) fun τ hI => ?_)
    · rw [List.length_map]
      congr 1
      split
      · rw [Nat.min_eq_right (by omega)]
      · rw [Nat.min_eq_left (by omega)]; rfl
    · obtain ⟨hc, x3, rfl⟩ := hI
      rw [List.getElem?_map] at hx
      cases hq : (Ma.stacksN (min 4 W.length)).1[i]? with
      | none => rw [hq] at hx; cases hx
      | some q =>
        rw [hq] at hx
        cases hx
        obtain ⟨hil, hiv⟩ := List.getElem?_eq_some_iff.mp hq
        have hqm := List.mem_of_getElem? hq
        have hq4 := s3 q hqm
        rw [List.drop_eq_getElem_cons hil, hiv, Ma.chk] at hc
        refine ⟨_, gd_name, wd_seq (wd_if (b := decide (q = W)) (et_is (et_test (ed_op (ed_var (d := sD q) rfl) (ed_var (d := sD W) rfl) (rv_eqD (sD_no q) (sD_no W) (sD_shaped q) (sD_shaped W)))) (eqv_sD q W)) (fun _ => wd_ret ed_bl rfl) fun hne => wd_next ?_)⟩
        rw [if_neg (of_decide_eq_false hne)] at hc
        refine wd_if (b := (Ma.toldOn (Ma.sem R) q).isNone) (et_is (et_test (ed_op (e := nevD) (ed_callD (d := runD (Ma.toldOn (Ma.sem R) q)) (ea_cons (ed_var (d := tabD (Ma.lawTable R)) rfl) (ea_cons (ed_var (d := sD q) rfl) ea_nil)) ⟨R, Ma.lawTable R, q, v.hi, tk, by omega, rfl, rfl⟩) (ed_tup (ea_cons ed_str ea_nil) (Nat.le_of_ble_eq_true rfl)) (rv_eqD (runD_no _) rfl (runD_shaped _) nev_shaped))) (runD_eqv _)) (fun hb => ?_) (fun hb => wd_next ?_)
        · rw [if_pos hb] at hc; cases hc
        · rw [if_neg (by rw [hb]; exact Bool.false_ne_true)] at hc
          exact ⟨hc, some (sD q), rfl⟩
    · obtain ⟨hc, x3, rfl⟩ := hI
      rw [List.length_map, List.drop_length] at hc
      have h4 : 4 < W.length := of_decide_eq_true hc
      refine wd_ret (ed_op (ed_cb (ea_cons (ed_var (d := sD W) rfl) ea_nil) rc_lenT) ed_int rv_gt) ?_
      rw [List.length_map]
      exact congrArg D.bl (decide_eq_true (by omega))
end
end Sp
namespace PD
open PySem PySem.Spec PyProof.Rows L2 PDX
section
variable {K : PySem.W.Frag} {M : Addr → Prop} {H H' : Hp} {S : Type} {J : S → Hp → Prop} {s : S} {te ta tb : TE} {tl : TA} {τ : Tau} {d e f : D} {ds : List D} {nx : S → Tau → Prop} {rt : S → D → Prop}
theorem rv_fdiv {i j : Int} (h : CDivN i j) : RvD K M (rI CDivN fun i j => .int (i.fdiv j)) (.int i) (.int j) (.int (i.fdiv j)) := rv_I h fun _ => Rp.int _
theorem rv_fmod {i j : Int} (h : j ≠ 0) : RvD K M (rI (fun _ j => j ≠ 0) fun i j => .int (i.fmod j)) (.int i) (.int j) (.int (i.fmod j)) := rv_I h fun _ => Rp.int _
theorem rv_mul {i j : Int} (h : CMul i j) : RvD K M (rI CMul fun i j => .int (i * j)) (.int i) (.int j) (.int (i * j)) := rv_I h fun _ => Rp.int _
theorem rv_pow {i j : Int} (h : CPow i j) : RvD K M (rI CPow fun i j => .int (i ^ j.toNat)) (.int i) (.int j) (.int (i ^ j.toNat)) := rv_I h fun _ => Rp.int _
theorem rv_ge {i j : Int} : RvD K M (rI0 fun i j => .bl (decide (j ≤ i))) (.int i) (.int j) (.bl (decide (j ≤ i))) := rv_I0 fun _ => Rp.bl _
theorem rc_int1 {i : Int} : RcD K M (fun xs H Q => (∃ i, xs = [.int i] ∧ Q (.int i) H) ∨ ∃ k, xs = [.bl k] ∧ Q (.int (if k then 1 else 0)) H) [.int i] (.int i) := fun vs H tr h Q q => by
  obtain ⟨v, r, rfl, p, t⟩ := h.inv
  rw [t.inv0, p.int_inv]
  exact .inl ⟨i, rfl, q _ H (Le.refl _ _) (Rp.int _)⟩
theorem rc_abs {i : Int} : RcD K M (fun xs H Q => ∃ i, xs = [.int i] ∧ Q (.int (if i < 0 then -i else i)) H) [.int i] (.int (if i < 0 then -i else i)) := fun vs H tr h Q q => by
  obtain ⟨v, r, rfl, p, t⟩ := h.inv
  rw [t.inv0, p.int_inv]
  exact ⟨i, rfl, q _ H (Le.refl _ _) (Rp.int _)⟩
theorem fmod_lt (i : Int) {m : Int} (h : 0 < m) : 0 ≤ i.fmod m ∧ i.fmod m < m := ⟨Int.fmod_nonneg_of_pos i h, Int.fmod_lt_of_pos i h⟩
/-! ### reading and writing the cup -/
variable {c : Addr} {PC : Unit → D → Prop}
theorem ec_cup0 {i : Nat} (hi : τ[i]? = some (some (.adr c))) : EvC K (Mc c) (Cup c) (tOp (rIxL K) (tVar i) (tC (.int 0))) () τ (fun _ d => ∃ x : Int, d = .int x ∧ 0 ≤ x) := fun σ H r j Q q => by
  obtain ⟨v, hv, pv⟩ := r.at_ i _ hi
  have ev := pv.adr_inv
  subst ev
  obtain ⟨x, y, hc, hx, hy, hy2⟩ := j
  exact ⟨_, hv, c, [.int x, .int y], 0, .int x, rfl, rfl, .inl (.inl hc), rfl, q _ H () (.int x) (Le.refl _ _) r.tr ⟨x, y, hc, hx, hy, hy2⟩ (Rp.int _) ⟨x, rfl, hx⟩⟩
theorem ec_cup1 {i : Nat} (hi : τ[i]? = some (some (.adr c))) : EvC K (Mc c) (Cup c) (tOp (rIxL K) (tVar i) (tC (.int 1))) () τ (fun _ d => ∃ y : Int, d = .int y ∧ 0 ≤ y ∧ y < 2 ^ 40) := fun σ H r j Q q => by
  obtain ⟨v, hv, pv⟩ := r.at_ i _ hi
  have ev := pv.adr_inv
  subst ev
  obtain ⟨x, y, hc, hx, hy, hy2⟩ := j
  exact ⟨_, hv, c, [.int x, .int y], 1, .int y, rfl, rfl, .inl (.inl hc), rfl, q _ H () (.int y) (Le.refl _ _) r.tr ⟨x, y, hc, hx, hy, hy2⟩ (Rp.int _) ⟨y, rfl, hy, hy2⟩⟩
theorem wc_set0 {i : Nat} {nx : Unit → Tau → Prop} {rt : Unit → D → Prop} (hi : τ[i]? = some (some (.adr c))) (h : EvC K (Mc c) (Cup c) te () τ (fun _ d => ∃ x : Int, d = .int x ∧ 0 ≤ x)) (k : nx () τ) : WC K (Mc c) (Cup c) (tAsg te (gSub (tVar i) (tC (.int 0)) rSetL)) nx rt () τ := fun En σ H r j kn _ =>
  h σ H r j _ fun v H1 s1 d1 l1 tr1 j1 p1 ⟨x1, e, hx1⟩ => by
    subst e
    rw [p1.int_inv]
    have r1 := r.le l1 tr1
    obtain ⟨v, hv, pv⟩ := r1.at_ i _ hi
    have ev := pv.adr_inv
    subst ev
    obtain ⟨x, y, hc, hx, hy, hy2⟩ := j1
    exact ⟨_, hv, c, [.int x, .int y], 0, 0, rfl, rfl, hc, rfl, kn σ _ τ () (fun a u n q => by rw [upd_ne n]; exact l1 a u n q) (r1.put rfl) ⟨x1, y, upd_same, hx1, hy, hy2⟩ k⟩
theorem wc_set1 {i : Nat} {nx : Unit → Tau → Prop} {rt : Unit → D → Prop} (hi : τ[i]? = some (some (.adr c))) (h : EvC K (Mc c) (Cup c) te () τ (fun _ d => ∃ y : Int, d = .int y ∧ 0 ≤ y ∧ y < 2 ^ 40)) (k : nx () τ) : WC K (Mc c) (Cup c) (tAsg te (gSub (tVar i) (tC (.int 1)) rSetL)) nx rt () τ := fun En σ H r j kn _ =>
  h σ H r j _ fun v H1 s1 d1 l1 tr1 j1 p1 ⟨y1, e, hy1, hy12⟩ => by
    subst e
    rw [p1.int_inv]
    have r1 := r.le l1 tr1
    obtain ⟨v, hv, pv⟩ := r1.at_ i _ hi
    have ev := pv.adr_inv
    subst ev
    obtain ⟨x, y, hc, hx, hy, hy2⟩ := j1
    exact ⟨_, hv, c, [.int x, .int y], 1, 1, rfl, rfl, hc, rfl, kn σ _ τ () (fun a u n q => by rw [upd_ne n]; exact l1 a u n q) (r1.put rfl) ⟨x, y1, upd_same, hx, hy1, hy12⟩ k⟩
/-! ### one more for, one more call -/
theorem wc_rangeP {k : Nat} {body : TS} (N : Nat) (hN : N ≤ 100000) (I : S → Tau → Prop) (h : EaC K M J tl s τ (fun s' ds => ∃ n : Nat, n ≤ N ∧ ds = [.int (n : Int)] ∧ I s' τ))
    (hs : ∀ (i : Nat) s1 τ1, I s1 τ1 → WC K M J body I rt s1 (τ1.set k (some (.int (i : Int))))) (hd : ∀ s1 τ1, I s1 τ1 → nx s1 τ1) : WC K M J (tFor (iRng1 tl) (gName k) body) nx rt s τ := fun En σ H r j kn kr =>
  h σ H r j _ fun vs H1 s0 ds l0 tr0 j0 p1 ⟨n, hn, ed, h0⟩ => by
    subst ed
    obtain ⟨v, r1, rfl, q1, t1⟩ := p1.inv
    rw [t1.inv0, q1.int_inv]
    have e0 : ((n : Int)).toNat = n := Int.toNat_natCast n
    refine ⟨(n : Int), rfl, by omega, by omega, ?_⟩
    rw [e0]
    refine for_range (lo := 0) (n := n) (fun i σ' H' => ∃ s1 τ1, Le M H1 H' ∧ Rel K M H' σ' τ1 ∧ J s1 H' ∧ I s1 τ1) ⟨s0, τ, Le.refl _ _, r.le l0 tr0, j0, h0⟩ ?_ ?_
    · rintro i σ' H' hl ⟨s1, τ1, l, r1, j1, hi⟩
      have e0 : (0 : Int) + (i : Int) = (i : Int) := Int.zero_add _
      show body _ (σ'.set k (some (.int ((0 : Int) + (i : Int))))) H'
      rw [e0]
      exact hs i s1 τ1 hi _ _ H' (r1.set k (Rp.int _)) j1 (fun σ3 H3 τ3 s3 l3 r3 j3 i3 => ⟨s3, τ3, l.trans l3, r3, j3, i3⟩) fun v3 H3 d3 s3 l3 p3 j3 q3 => kr v3 H3 d3 s3 (l0.trans (l.trans l3)) p3 j3 q3
    · rintro σ' H' ⟨s1, τ1, l, r1, j1, hi⟩
      exact kn σ' H' τ1 s1 (l0.trans l) r1 j1 (hd s1 τ1 hi)
/-- a list of draws, by a comprehension over a range -/
theorem ec_draws {j : Nat} (N b : Nat) (hN : N ≤ 100000) (hflat : ∀ (i : Nat) (d : D), τ[i]? = some (some d) → (∃ n : Int, d = .int n) ∨ d = .adr c) (hsrc : EaC K (Mc c) (Cup c) tl () τ (fun _ ds => ∃ n : Nat, n ≤ N ∧ ds = [.int (n : Int)]))
    (he : ∀ i : Nat, EvC K (Mc c) (Cup c) te () ((wipeT τ [j]).set j (some (.int (i : Int)))) (fun _ d => ∃ x : Nat, d = .int (x : Int) ∧ x < b)) : EvC K (Mc c) (Cup c) (tLc (iRng1 tl) (gName j) tYes te [j]) () τ (fun _ d => ∃ l : List Nat, d = .lst (l.map fun x : Nat => D.int (x : Int)) ∧ l.length ≤ N ∧ ∀ x ∈ l, x < b) := fun σ H r jj Q q =>
  hsrc σ H r jj _ fun vs H1 s1 ds l1 tr1 j1 p1 ⟨n, hn, ed⟩ => by
    subst ed
    obtain ⟨v, r1, rfl, q1, t1⟩ := p1.inv
    rw [t1.inv0, q1.int_inv]
    have e0 : ((n : Int)).toNat = n := Int.toNat_natCast n
    refine ⟨(n : Int), rfl, by omega, by omega, ?_⟩
    rw [e0]
    intro Dl hD
    have rr := r.le l1 tr1
    have hDc : Dl ≠ c := fun e => by rw [e] at hD; exact cup_tr j1 c rfl hD
    have again : ∀ {H2 H3 : Hp}, Rel K (Mc c) H2 σ τ → (∀ a, Mc c a → H3 a ≠ none) → Rel K (Mc c) H3 σ τ := fun r2 tr => ⟨tr, r2.len, fun i d hd => by
      obtain ⟨v, h1, h2⟩ := r2.at_ i d hd
      refine ⟨v, h1, ?_⟩
      rcases hflat i d hd with ⟨n, rfl⟩ | rfl
      · rw [h2.int_inv]; exact Rp.int n
      · rw [h2.adr_inv]; exact Rp.adr c⟩
    refine lc_range (lo := 0) (n := n) (fun i H' => Le (Mc c) H1 H' ∧ Rel K (Mc c) H' σ τ ∧ Cup c () H' ∧ ∃ l : List Nat, l.length = i ∧ (∀ x ∈ l, x < b) ∧ H' Dl = some (.lst (l.map fun x : Nat => V.int (x : Int))))
      ⟨(Le.new hD).of0, rr.mono (Le.new hD), Stab.st () _ _ (Le.new hD) j1, [], rfl, (fun x hx => nomatch hx), upd_same⟩ (fun i H' hi z => ?_) (fun H' z => ?_)
    · obtain ⟨z1, z2, z3, l, hl, hb, hDl⟩ := z
      refine ⟨wipe1 σ j _, ?_⟩
      show te _ H' _
      have ei : (0 : Int) + (i : Int) = (i : Int) := Int.zero_add _
      rw [ei]
      refine he i _ H' ((z2.wipe [j]).set j (Rp.int _)) z3 _ fun y H4 s4 d4 l4 tr4 j4 p4 ⟨x, ed, hx⟩ => ?_
      subst ed
      have hDl4 : H4 Dl = some (.lst (l.map fun x : Nat => V.int (x : Int))) := l4 Dl _ hDc hDl
      have tr5 : ∀ a, Mc c a → upd H4 Dl (.lst ((l.map fun x : Nat => V.int (x : Int)) ++ [y])) a ≠ none := fun a m => by
        rw [show a = c from m, upd_ne (Ne.symm hDc)]
        exact tr4 c rfl
      refine ⟨_, hDl4, by rw [List.length_map, hl]; exact Nat.lt_of_lt_of_le (show i < 100001 by omega) (by decide), fun a u m h => ?_, again z2 tr5, ?_, l ++ [x], by rw [List.length_append, hl]; rfl, fun x' hx' => ?_, ?_⟩
      · rw [upd_ne (ne_of_none h hD)]
        exact l4 a u m (z1 a u m h)
      · obtain ⟨x0, y0, h0, h1, h2, h3⟩ := j4
        exact ⟨x0, y0, by rw [upd_ne (Ne.symm hDc)]; exact h0, h1, h2, h3⟩
      · rcases List.mem_append.mp hx' with h | h
        · exact hb x' h
        · rw [List.mem_singleton.mp h]; exact hx
      · rw [upd_same, p4.int_inv, List.map_append]
        rfl
    · obtain ⟨z1, z2, z3, l, hl, hb, hDl⟩ := z
      refine q (.ref Dl) H' () (.lst (l.map fun x : Nat => D.int (x : Int))) (l1.trans z1) z2.tr z3 (Rp.lst hDc hDl ?_) ⟨l, rfl, by omega, hb⟩
      clear hl hb hDl
      induction l with
      | nil => exact RpL.nil
      | cons x l ih => exact RpL.cons (Rp.int _) ih
end
end PD
namespace Sp
open PySem PySem.Spec PyProof.Rows L2 PD PDX
/-- a def that draws -/
def CalC (P : Program) (w : World) (K : PySem.W.Frag) (mg : Str → Option Value) (base : Heap) (x : Str) (k : Nat) (ps : List Str) (F : List D → (D → Prop) → Prop) : Prop :=
  ∃ f fd, FnOk P w K mg base CX0 k f fd ps (spC K F) ∧ mg x = some (.ref f) ∧ PySem.W.keepIn K (.ref f) = true ∧ Binds K fd ps []
def spCup (K : PySem.W.Frag) : L2.Sp := fun vs H Q _ => ∃ (a : Addr) (ns : List Int), vs = [.ref a] ∧ SqL K H a (ns.map V.int) ∧ ns.length ≤ 1000 ∧ ∀ c H', Le0 H H' → Cup c () H' → Q (.ref c) H'
def CalU (P : Program) (w : World) (K : PySem.W.Frag) (mg : Str → Option Value) (base : Heap) (x : Str) (k : Nat) (ps : List Str) : Prop :=
  ∃ f fd, FnOk P w K mg base CX0 k f fd ps (spCup K) ∧ mg x = some (.ref f) ∧ PySem.W.keepIn K (.ref f) = true ∧ Binds K fd ps []
section
variable {K : PySem.W.Frag} {M : Addr → Prop} {J : Unit → Hp → Prop} [Stab J] {te ta tb : TE} {tl : TA} {τ : Tau}
abbrev IntP (A : Int → Prop) : Unit → D → Prop := fun _ d => ∃ i : Int, d = .int i ∧ A i
omit [Stab J] in
theorem eu_unit {P : Unit → D → Prop} {s : Unit} (h : EvC K M J te () τ P) : EvC K M J te s τ P := h
theorem eu_op {r : R2} {A B Pz : Int → Prop} {g : Int → Int → Int} (ha : EvC K M J ta () τ (IntP A)) (hb : EvC K M J tb () τ (IntP B)) (h : ∀ i j, A i → B j → RvD K M r (.int i) (.int j) (.int (g i j)) ∧ Pz (g i j)) : EvC K M J (tOp r ta tb) () τ (IntP Pz) :=
  ec_op' ha fun s1 d1 h1 => by
    obtain ⟨i, rfl, hi⟩ := h1
    exact ec_mono hb fun s2 d2 h2 => by
      obtain ⟨j, rfl, hj⟩ := h2
      exact ⟨_, (h i j hi hj).1, _, rfl, (h i j hi hj).2⟩
theorem eu_int1 {A : Int → Prop} (h : EvC K M J te () τ (IntP A)) : EvC K M J (tCB (fun xs H Q => (∃ i, xs = [.int i] ∧ Q (.int i) H) ∨ ∃ k, xs = [.bl k] ∧ Q (.int (if k then 1 else 0)) H) (tCons te tNil)) () τ (IntP A) :=
  ec_cb (eac_cons h fun s1 d1 h1 => eac_nil (by
    obtain ⟨i, rfl, hi⟩ := h1
    exact ⟨_, rc_int1, fun H H' l j => Stab.st () H H' l j, i, rfl, hi⟩))
theorem eu_var {i : Nat} {n : Int} (h : τ[i]? = some (some (.int n))) : EvC K M J (tVar i) () τ (IntP fun z => z = n) := ec_mono (ec_pure (ed_var h)) fun s d h => by
  obtain ⟨_, rfl⟩ := h
  exact ⟨n, rfl, rfl⟩
theorem eu_const {n : Int} : EvC K M J (tC (.int n)) () τ (IntP fun z => z = n) := ec_mono (ec_pure ed_int) fun s d h => by
  obtain ⟨_, rfl⟩ := h
  exact ⟨n, rfl, rfl⟩
theorem eac_pure {ds : List D} {Pl : Unit → List D → Prop} (h : EaD K M tl τ ds) (hp : Pl () ds) : EaC K M J tl () τ Pl := fun σ H r j Q q => h σ H r Q fun vs H' l p => q vs H' () ds l.of0 (r.mono l).tr (Stab.st () H H' l j) p hp
end
theorem eu_call {K : PySem.W.Frag} {c : Addr} {tl : TA} {τ : Tau} {F : List D → (D → Prop) → Prop} {E : XK} {es : List D} {Pd : D → Prop} {P : Unit → D → Prop} (h : EaD K (Mc c) tl τ (.adr c :: es)) (hf : F es Pd) (hp : ∀ d, Pd d → P () d) : EvC K (Mc c) (Cup c) (tCall (spC K F) [] E tl) () τ P :=
  ec_callC (eac_pure h ⟨es, Pd, rfl, hf, hp⟩)
section
variable {P : Program} {w : World} {K : PySem.W.Frag} {mg : Str → Option Value} {base : Heap}
theorem calC {x : Str} {i k : Nat} {N ps : List Str} {F : List D → (D → Prop) → Prop} (a : At K mg x i ps) (S : FnScope N ps (defScope (topS i))) (len : ∀ ds Pd, F ds Pd → ds.length + 1 = ps.length)
    (hbody : ∀ (f : Addr) (cdv : Value) (A : Around) (outer : List Env) (s : Shared) (H : Hp) (E : XK), Room k (A.deeper (envOfC x (defScope (topS i)) s.heap.objs.size f cdv)) →
      ∃ t, PSs (cxOf CX0 P w K mg base N x (defScope (topS i)) f cdv A outer s H E).nox (defBody (topS i)) t ∧ ∀ c ds Pd, F ds Pd → WC K (Mc c) (Cup c) t (fun _ _ => Pd .non) (fun _ => Pd) () (startC c N ds)) : CalC P w K mg base x (k + 1) ps F := by
  obtain ⟨f, fd, U, m, b⟩ := a
  exact ⟨f, fd, fnC U S len fun cdv A outer s H E hr => hbody f cdv A outer s H E hr, m, U.kp, b⟩
theorem ints_rp {M : Addr → Prop} {H : Hp} : ∀ ns : List Int, RpL K M H (ns.map D.int) (ns.map V.int)
  | [] => RpL.nil
  | n :: ns => RpL.cons (Rp.int n) (ints_rp ns)
theorem scCup : FnScope ["_law_script", "_law_cell"] ["_law_script"] (defScope (topS 31)) := ⟨rfl, rfl, rfl, by decide +kernel, rfl, by decide +kernel, by decide +kernel⟩
theorem ok_cup (T : Tx K mg) (a : At K mg "_law_cup" 31 ["_law_script"]) : CalU P w K mg base "_law_cup" 1 ["_law_script"] := by
  obtain ⟨f, fd, U, m, b⟩ := a
  refine ⟨f, fd, U.ok scCup (fun vs H Q E h => ?_) (fun cdv A outer s H vs Q E hr h => ?_), m, U.kp, b⟩
  · obtain ⟨a, ns, rfl, _⟩ := h; rfl
  · obtain ⟨a, ns, rfl, hs, hn, hq⟩ := h
    refine ⟨_, pss_cons (ps_set (i := 1) scCup.nd rfl (.inl rfl) (pe_callB call_abs (by rfl) T.abs (by decide +kernel) (pa_cons (pe_ix ix_list (pe_op op_cat (pe_callTy call_list_of (by rfl) T.list (by decide +kernel) (pa_cons (pv 0) pa_nil)) (pe_lst (pa_cons pe_int pa_nil))) pe_int (fun _ _ => rfl)) pa_nil)))
      (pss_one (ps_ret (pe_lst (pa_cons (pe_ifExp (pt_cmpR op_ge (pv 1) (pe_op op_pow pe_int pe_int) (nomark _)) (pe_op op_fdivN (pv 1) pe_int) pe_int)
        (pa_cons (pe_op op_add (pe_op op_modN (pe_callTy call_int1 (by rfl) T.int (by decide +kernel) (pa_cons (pe_op op_add (pe_op op_mul (pv 1) pe_int) pe_int) pa_nil)) pe_int) pe_int) pa_nil))))), ?_⟩
    have r : Rel K M0 H (L2.start ["_law_script", "_law_cell"] [.ref a]) (startT ["_law_script", "_law_cell"] [.adr a]) := rel_start (fun a m => m.elim) (RpL.cons (Rp.adr a) RpL.nil)
    refine ⟨.ref a, rfl, a, ns.map V.int, rfl, .inl hs, fun l hl => ?_⟩
    have r1 := r.mono (Le.new (o := .lst (ns.map V.int)) hl)
    refine ed_lst (K := K) (M := M0) (ea_cons ed_int ea_nil) (Nat.le_of_ble_eq_true rfl) _ _ r1 _ fun y H2 l2 p2 => ?_
    have p1 : Rp K M0 H2 (.lst (ns.map D.int)) (.ref l) := (Rp.lst (M := M0) (fun z => z) upd_same (ints_rp ns)).mono l2.of0
    refine rv_catL (K := K) (M := M0) (ds := ns.map D.int) (es := [.int 0]) (by rw [List.length_map]; show ns.length + 1 ≤ 100000; omega) _ _ H2 (fun a m => m.elim) p1 p2 _ fun z H3 l3 p3 => ?_
    have hat : ∃ i0 : Int, L2.atI (ns.map D.int ++ [.int 0]) (0 : Int) = some (.int i0) := by
      cases ns with
      | nil => exact ⟨0, rfl⟩
      | cons n ns => exact ⟨n, L2.atI_nat (j := 0) rfl⟩
    obtain ⟨i0, hat⟩ := hat
    refine rv_ixL (K := K) (M := M0) hat z (.int 0) H3 (fun a m => m.elim) p3 (Rp.int 0) _ fun v H4 l4 p4 => ?_
    rw [p4.int_inv]
    refine ⟨i0, rfl, ?_⟩
    have hc0 : (0 : Int) ≤ (if i0 < 0 then -i0 else i0) := by split <;> omega
    generalize (if i0 < 0 then -i0 else i0) = cell at hc0
    have l04 : Le0 H H4 := (Le.new hl).trans (l2.trans (l3.trans l4))
    have r4 : Rel K M0 H4 ((L2.start ["_law_script", "_law_cell"] [.ref a]).set 1 (some (.int cell))) [some (.adr a), some (.int cell)] := (r.mono l04).set 1 (Rp.int cell)
    refine wd_ret (K := K) (M := M0) (nx := fun _ => False) (rt := fun d => ∃ x y : Int, d = .lst [.int x, .int y] ∧ 0 ≤ x ∧ 0 ≤ y ∧ y < 2 ^ 40) (ed_lst (ea_cons (ed_if (b := decide ((10 : Int) ^ (18 : Int).toNat ≤ cell)) (d := .int (if (10 : Int) ^ (18 : Int).toNat ≤ cell then cell.fdiv 11 else 0)) (et_test (ed_op (ed_var (d := .int cell) rfl) (ed_op ed_int ed_int (rv_pow ⟨by decide, by decide, by decide⟩)) rv_ge)) (fun hb => ?_) (fun hb => ?_))
      (ea_cons (ed_op (ed_op (ed_cb (ea_cons (ed_op (ed_op (ed_var (d := .int cell) rfl) ed_int (rv_mul (.inr (by decide)))) ed_int rv_add) ea_nil) rc_int1) ed_int (rv_fmod (by decide))) ed_int rv_add) ea_nil)) (Nat.le_of_ble_eq_true rfl)) ?_ _ _ H4 r4 (fun _ _ _ _ _ n => n.elim) fun v H5 d l5 p5 hd => ?_
    · rw [if_pos (of_decide_eq_true hb)]
      exact ed_op (ed_var (d := .int cell) rfl) ed_int (rv_fdiv ⟨by decide, by decide⟩)
    · rw [if_neg (of_decide_eq_false hb)]
      exact ed_int
    · have f := fmod_lt (cell * 193 + 1201) (m := 2077504273) (by decide)
      refine ⟨_, _, rfl, ?_, by omega, ?_⟩
      · split
        · rw [Int.fdiv_eq_ediv_of_nonneg _ (by decide)]
          exact Int.ediv_nonneg hc0 (by decide)
        · decide
      · have : (2 : Int) ^ 40 = 1099511627776 := by decide
        omega
    · obtain ⟨x, y, rfl, hx, hy, hy2⟩ := hd
      obtain ⟨c, vs, rfl, _, h3, h4⟩ := p5.lst_inv
      obtain ⟨v1, t1, rfl, q1, h4⟩ := h4.inv
      obtain ⟨v2, t2, rfl, q2, h4⟩ := h4.inv
      rw [h4.inv0, q1.int_inv, q2.int_inv] at h3
      exact hq c H5 (l04.trans l5) ⟨x, y, h3, hx, hy, hy2⟩
/-- a draw -/
def fRoll : List D → (D → Prop) → Prop := fun ds Pd => ∃ m : Nat, 1 ≤ m ∧ m ≤ 1000 ∧ ds = [.int (m : Int)] ∧ Pd = fun x => ∃ r : Nat, x = .int (r : Int) ∧ r < m
abbrev nRoll : List Str := ["_law_cup_here", "_law_many", "_law_found", "_law_deep"]
theorem scRoll : FnScope nRoll ["_law_cup_here", "_law_many"] (defScope (topS 32)) := ⟨rfl, rfl, rfl, by decide +kernel, rfl, by decide +kernel, by decide +kernel⟩
theorem nat_of {i : Int} {m : Nat} (h : 0 ≤ i ∧ i < (m : Int)) : ∃ r : Nat, D.int i = .int (r : Int) ∧ r < m := ⟨i.toNat, by rw [Int.toNat_of_nonneg h.1], by omega⟩
theorem ok_roll (T : Tx K mg) (a : At K mg "_law_roll" 32 ["_law_cup_here", "_law_many"]) : CalC P w K mg base "_law_roll" 1 ["_law_cup_here", "_law_many"] fRoll := by
  refine calC a scRoll (fun ds Pd h => by obtain ⟨m, _, _, rfl, _⟩ := h; rfl) fun f cdv A outer s H E hr => ?_
  refine ⟨_, pss_cons (ps_if (pt_cmpR op_gt (pe_ix ix_list (pv 0) pe_int (fun _ _ => rfl)) pe_int (nomark _))
      (pss_cons (ps_set (i := 2) scRoll.nd rfl (.inl rfl) (pe_op op_modN (pe_callTy call_int1 (by rfl) T.int (by decide +kernel) (pa_cons (pe_ix ix_list (pv 0) pe_int (fun _ _ => rfl)) pa_nil)) (pv 1)))
      (pss_cons (ps_asg (pe_op op_fdivN (pe_ix ix_list (pv 0) pe_int (fun _ _ => rfl)) (pv 1)) (pg_sub (pv 0) pe_int set_list))
      (pss_one (ps_ret (pv 2))))) pss_nil)
    (pss_cons (ps_asg (pe_op op_modN (pe_callTy call_int1 (by rfl) T.int (by decide +kernel) (pa_cons (pe_op op_add (pe_op op_mul (pe_ix ix_list (pv 0) pe_int (fun _ _ => rfl)) pe_int) pe_int) pa_nil)) pe_int) (pg_sub (pv 0) pe_int set_list))
    (pss_cons (ps_set (i := 3) scRoll.nd rfl (.inl rfl) (pe_op op_modN (pe_callTy call_int1 (by rfl) T.int (by decide +kernel) (pa_cons (pe_op op_mul (pe_ix ix_list (pv 0) pe_int (fun _ _ => rfl)) (pe_op op_add (pe_ix ix_list (pv 0) pe_int (fun _ _ => rfl)) pe_int)) pa_nil)) pe_int))
    (pss_one (ps_ret (pe_op op_modN (pe_callTy call_int1 (by rfl) T.int (by decide +kernel) (pa_cons (pe_op op_fdivN (pv 3) pe_int) pa_nil)) (pv 1)))))), fun c ds Pd h => ?_⟩
  obtain ⟨m, h1, h2, rfl, rfl⟩ := h
  have hm0 : (0 : Int) < (m : Int) := by omega
  have hmd : CDivN 0 (m : Int) := ⟨by omega, by rw [Int.natAbs_natCast]; omega⟩
  have p40 : (2 : Int) ^ 40 = 1099511627776 := by decide
  have p64 : (2 : Int) ^ 64 = 18446744073709551616 := by decide
  refine wc_seq (wc_ifC (Pb := fun _ _ => True) (etc_test (ec_op' (ec_cup0 (i := 0) rfl) fun s1 d1 h1 => ?_)) (fun s1 _ => ?_) (fun s1 _ => wc_next ?_))
  · obtain ⟨x, rfl, hx⟩ := h1
    exact ec_mono (ec_pure ed_int) fun s' d h => by
      obtain ⟨_, rfl⟩ := h
      exact ⟨_, rv_gt, _, rfl, True.intro⟩
  · refine wc_seq (wc_asg (ec_mono (eu_op (g := Int.fmod) (Pz := fun z => 0 ≤ z ∧ z < (m : Int)) (eu_int1 (ec_cup0 (i := 0) rfl)) (eu_var (i := 1) (n := (m : Int)) rfl) fun i j hi hj => ?_) fun s' d h => ?_))
    · subst hj
      exact ⟨rv_fmod (by omega), fmod_lt i hm0⟩
    · obtain ⟨z, rfl, hz⟩ := h
      obtain ⟨r, er, hr⟩ := nat_of hz
      rw [er]
      refine wc_seq (wc_set0 (i := 0) rfl (eu_op (g := Int.fdiv) (Pz := fun z => 0 ≤ z) (ec_cup0 (i := 0) rfl) (eu_var (i := 1) (n := (m : Int)) rfl) fun i j hi hj => ?_) ?_)
      · subst hj
        refine ⟨rv_fdiv ⟨by omega, by rw [Int.natAbs_natCast]; omega⟩, ?_⟩
        rw [Int.fdiv_eq_ediv_of_nonneg _ (by omega)]
        exact Int.ediv_nonneg hi (by omega)
      · exact wc_ret (ec_mono (ec_pure (ed_var (d := .int (r : Int)) rfl)) fun s' d h => by
          obtain ⟨_, rfl⟩ := h
          exact ⟨r, rfl, hr⟩)
  · refine wc_seq (wc_set1 (i := 0) rfl (eu_op (g := Int.fmod) (Pz := fun z => 0 ≤ z ∧ z < 2 ^ 40) (eu_int1 (eu_op (g := fun i j => i + j) (Pz := fun _ => True) (eu_op (g := fun i j => i * j) (Pz := fun _ => True) (ec_cup1 (i := 0) rfl) (eu_const (n := 30671)) fun i j hi hj => ⟨rv_mul (.inr (by subst hj; decide)), True.intro⟩) (eu_const (n := 7919)) fun i j _ _ => ⟨rv_add, True.intro⟩)) (eu_const (n := 2147483549)) fun i j hi hj => ?_) ?_)
    · subst hj
      have f := fmod_lt i (m := 2147483549) (by decide)
      exact ⟨rv_fmod (by decide), f.1, by omega⟩
    · refine wc_seq (wc_asg (ec_mono (eu_op (g := Int.fmod) (Pz := fun z => 0 ≤ z) (eu_int1 (eu_op (g := fun i j => i * j) (Pz := fun _ => True) (ec_cup1 (i := 0) rfl) (eu_op (g := fun i j => i + j) (Pz := fun _ => True) (ec_cup1 (i := 0) rfl) (eu_const (n := 131)) fun i j _ _ => ⟨rv_add, True.intro⟩) fun i j hi hj => ⟨rv_mul (.inl (by omega)), True.intro⟩)) (eu_const (n := 2147483587)) fun i j hi hj => ?_) fun s' d h => ?_))
      · subst hj
        exact ⟨rv_fmod (by decide), (fmod_lt i (m := 2147483587) (by decide)).1⟩
      · obtain ⟨z, rfl, hz⟩ := h
        refine wc_ret (ec_mono (eu_op (g := Int.fmod) (Pz := fun z => 0 ≤ z ∧ z < (m : Int)) (eu_int1 (eu_op (g := Int.fdiv) (Pz := fun _ => True) (eu_var (i := 3) (n := z) rfl) (eu_const (n := 709)) fun i j hi hj => ⟨rv_fdiv (by subst hj; exact ⟨by decide, by decide⟩), True.intro⟩)) (eu_var (i := 1) (n := (m : Int)) rfl) fun i j hi hj => ?_) fun s' d h => ?_)
        · subst hj
          exact ⟨rv_fmod (by omega), fmod_lt i hm0⟩
        · obtain ⟨z, rfl, hz⟩ := h
          exact nat_of hz
/-- one of several -/
def fSome : List D → (D → Prop) → Prop := fun ds Pd => ∃ ns : List Int, ns ≠ [] ∧ ns.length ≤ 1000 ∧ ds = [.lst (ns.map D.int)] ∧ Pd = fun x => ∃ i : Int, x = .int i ∧ i ∈ ns
theorem scSome : FnScope ["_law_cup_here", "_law_things"] ["_law_cup_here", "_law_things"] (defScope (topS 33)) := ⟨rfl, rfl, rfl, by decide +kernel, rfl, by decide +kernel, by decide +kernel⟩
theorem ok_some (T : Tx K mg) (a : At K mg "_law_some" 33 ["_law_cup_here", "_law_things"]) (C1 : CalC P w K mg base "_law_roll" 1 ["_law_cup_here", "_law_many"] fRoll) : CalC P w K mg base "_law_some" 2 ["_law_cup_here", "_law_things"] fSome := by
  obtain ⟨f1, fd1, G1, m1, k1, b1⟩ := C1
  refine calC a scSome (fun ds Pd h => by obtain ⟨m, _, _, rfl, _⟩ := h; rfl) fun f cdv A outer s H E hr => ?_
  refine ⟨_, pss_one (ps_ret (pe_ix ix_list (pv 1) (pe_call G1 hr (by rfl) m1 k1 b1 .nil pass0 (pa_cons (pv 0) (pa_cons (pe_callB call_len_seq (by rfl) T.len PySem.boot_len (pa_cons (pv 1) pa_nil)) pa_nil))) (fun _ _ => rfl))), fun c ds Pd h => ?_⟩
  obtain ⟨ns, h1, h2, rfl, rfl⟩ := h
  have hpos : 1 ≤ ns.length := List.length_pos_iff.mpr h1
  refine wc_ret (ec_op' (ec_pure (ed_var (d := .lst (ns.map D.int)) rfl)) fun s1 d1 h => ?_)
  obtain ⟨_, rfl⟩ := h
  refine eu_call (es := [.int (ns.length : Int)]) (ea_cons (ed_var rfl) (ea_cons (ed_is (ed_cb (ea_cons (ed_var (d := .lst (ns.map D.int)) rfl) ea_nil) rc_lenL) (by rw [List.length_map])) ea_nil)) ⟨ns.length, hpos, h2, rfl, rfl⟩ fun d hd => ?_
  obtain ⟨r, rfl, hr⟩ := hd
  refine ⟨.int ns[r], rv_ixL (L2.atI_nat ?_), _, rfl, List.getElem_mem hr⟩
  rw [List.getElem?_map, List.getElem?_eq_getElem hr]
  rfl
/-- some sorts -/
def fSorts : List D → (D → Prop) → Prop := fun ds Pd => ∃ m b : Nat, m ≤ 10 ∧ b ≤ 10 ∧ ds = [.int (m : Int), .int (b : Int)] ∧ Pd = fun x => ∃ l : List Nat, x = sD l ∧ l.length ≤ m ∧ ∀ x ∈ l, x < b
abbrev nSorts : List Str := ["_law_cup_here", "_law_many", "_law_below", "_law_turn"]
theorem scSorts : FnScope nSorts ["_law_cup_here", "_law_many", "_law_below"] (defScope (topS 34)) := ⟨rfl, rfl, rfl, by decide +kernel, rfl, by decide +kernel, by decide +kernel⟩
theorem ok_sorts (T : Tx K mg) (a : At K mg "_law_sorts" 34 ["_law_cup_here", "_law_many", "_law_below"]) (C1 : CalC P w K mg base "_law_roll" 1 ["_law_cup_here", "_law_many"] fRoll) : CalC P w K mg base "_law_sorts" 2 ["_law_cup_here", "_law_many", "_law_below"] fSorts := by
  obtain ⟨f1, fd1, G1, m1, k1, b1⟩ := C1
  refine calC a scSorts (fun ds Pd h => by obtain ⟨m, b, _, _, rfl, _⟩ := h; rfl) fun f cdv A outer s H E hr => ?_
  refine ⟨_, pss_one (ps_ret (pe_ifExp (pt_cmpR op_gt (pv 2) pe_int (nomark _)) (pe_callTy call_tuple_of (by rfl) T.tuple (by decide +kernel) (pa_cons (pe_lc (own := [("_law_turn", 3)]) (g := gName 3) rfl scSorts.nd (pi_range1 (by rfl) T.range (pa_cons (pe_call G1 hr (by rfl) m1 k1 b1 .nil pass0 (pa_cons (pv 0) (pa_cons (pe_op op_add (pv 1) pe_int) pa_nil))) pa_nil)) (blkOk_by (own := [("_law_turn", 3)]) (N := nSorts) (sc := defScope (topS 34)) (by decide +kernel))
      (fun _ _ _ _ _ => pg_name (i := 3) scSorts.nd rfl (Or.inl rfl)) (fun _ _ _ _ _ => pts_nil) (fun _ _ _ _ _ => pe_call G1 hr (by rfl) m1 k1 b1 .nil pass0 (pa_cons (pv 0) (pa_cons (pv 2) pa_nil)))) pa_nil)) (pe_tup pa_nil))), fun c ds Pd h => ?_⟩
  obtain ⟨m, b, hm, hb, rfl, rfl⟩ := h
  refine wc_ret (ec_if (etc_pure (et_test (ed_op (ed_var (d := .int (b : Int)) rfl) ed_int rv_gt))) (fun s1 h => ?_) (fun s1 h => ?_))
  · have hb1 : 1 ≤ b := by have := of_decide_eq_true h.2.symm; omega
    refine ec_cb (eac_cons (ec_draws (c := c) m b (by omega) (fun i d hd => ?_) (eac_cons (eu_call (es := [.int ((m + 1 : Nat) : Int)]) (ea_cons (ed_var rfl) (ea_cons (ed_is (ed_op (ed_var (d := .int (m : Int)) rfl) ed_int rv_add) (by rw [Int.natCast_add]; rfl)) ea_nil)) ⟨m + 1, by omega, by omega, rfl, rfl⟩ (P := fun _ d => ∃ r : Nat, d = .int (r : Int) ∧ r < m + 1) fun d hd => hd) fun s1 d1 h1 => ?_) (fun i => ?_)) fun s2 d2 h2 => eac_nil ?_)
    · match i, hd with
      | 0, hd => exact .inr (Option.some.inj (Option.some.inj hd)).symm
      | 1, hd => exact .inl ⟨_, (Option.some.inj (Option.some.inj hd)).symm⟩
      | 2, hd => exact .inl ⟨_, (Option.some.inj (Option.some.inj hd)).symm⟩
      | 3, hd => cases hd
      | n + 4, hd => cases hd
    · obtain ⟨r, rfl, hr⟩ := h1
      exact eac_nil ⟨r, by omega, rfl⟩
    · exact eu_call (es := [.int (b : Int)]) (ea_cons (ed_var rfl) (ea_cons (ed_var rfl) ea_nil)) ⟨b, hb1, by omega, rfl, rfl⟩ fun d hd => hd
    · obtain ⟨l, rfl, hl, hlb⟩ := h2
      exact ⟨_, rc_tupleL, fun H H' l j => Stab.st () H H' l j, l, rfl, hl, hlb⟩
  · exact ec_mono (ec_pure (ed_tup ea_nil (Nat.le_of_ble_eq_true rfl))) fun s' d h => by
      obtain ⟨_, rfl⟩ := h
      exact ⟨[], rfl, Nat.zero_le _, fun x hx => nomatch hx⟩
end
end Sp
namespace Sp
open PySem PySem.Spec PyProof.Rows L2 PD PDX
section
variable {K : PySem.W.Frag} {M : Addr → Prop} {J : Unit → Hp → Prop} [Stab J] {te ta tb tc : TE} {tl : TA} {τ : Tau} {n : Nat}
abbrev SortsP (m b : Nat) : Unit → D → Prop := fun _ d => ∃ l : List Nat, d = sD l ∧ l.length ≤ m ∧ ∀ x ∈ l, x < b
abbrev PostP (n : Nat) : Unit → D → Prop := fun _ d => ∃ o : Option Nat, d = eD o ∧ ∀ p, o = some p → p < n
abbrev MoveP (n : Nat) : Unit → D → Prop := fun _ d => ∃ m : Ma.Move, d = mD m ∧ Ma.VM n m
theorem ec_move (ha : EvC K M J ta () τ (SortsP 2 3)) (hb : EvC K M J tb () τ (SortsP 3 3)) (hc : EvC K M J tc () τ (PostP n)) : EvC K M J (tTup (tCons ta (tCons tb (tCons tc tNil)))) () τ (MoveP n) :=
  ec_tup (eac_cons ha fun s1 d1 h1 => eac_cons hb fun s2 d2 h2 => eac_cons hc fun s3 d3 h3 => eac_nil (by
    obtain ⟨l, rfl, a1, a2⟩ := h1
    obtain ⟨l2, rfl, b1, b2⟩ := h2
    obtain ⟨o, rfl, c1⟩ := h3
    exact ⟨Nat.le_of_ble_eq_true rfl, (l, l2, o), rfl, ⟨a1, a2, b1, b2, c1⟩⟩))
theorem et_zero {A : Int → Prop} (h : EvC K M J te () τ (IntP A)) : EtC K M J (tTest (tOp rEq te (tC (.int 0)))) () τ (fun _ _ => True) := etc_test (ec_op' h fun s1 d1 h1 => by
  obtain ⟨i, rfl, _⟩ := h1
  exact ec_mono (ec_pure ed_int) fun s' d h => by
    obtain ⟨_, rfl⟩ := h
    exact ⟨_, rv_eqI, _, rfl, True.intro⟩)
theorem ec_snoc {i : Nat} {xs : List D} {P : Unit → D → Prop} (hi : τ[i]? = some (some (.tup xs))) (hz : xs.length < 100000) (h : EvC K M J te () τ P) : EvC K M J (tOp (rCatA K) (tVar i) (tTup (tCons te tNil))) () τ (fun s d => ∃ x, d = .tup (xs ++ [x]) ∧ P s x) :=
  ec_op' (ec_pure (ed_var hi)) fun s1 d1 h1 => by
    obtain ⟨_, rfl⟩ := h1
    exact ec_tup (eac_cons h fun s2 d2 h2 => eac_nil ⟨Nat.le_of_ble_eq_true rfl, _, rv_cat (es := [d2]) (by show xs.length + 1 ≤ 100000; omega), d2, rfl, h2⟩)
end
section
variable {P : Program} {w : World} {K : PySem.W.Frag} {mg : Str → Option Value} {base : Heap}
theorem eu_roll {c : Addr} {tl : TA} {τ : Tau} {E : XK} {m : Nat} (h : EaD K (Mc c) tl τ [.adr c, .int (m : Int)]) (h1 : 1 ≤ m) (h2 : m ≤ 1000) : EvC K (Mc c) (Cup c) (tCall (spC K fRoll) [] E tl) () τ (fun _ d => ∃ r : Nat, d = .int (r : Int) ∧ r < m) :=
  eu_call (es := [.int (m : Int)]) h ⟨m, h1, h2, rfl, rfl⟩ fun d hd => hd
theorem eu_sorts {c : Addr} {tl : TA} {τ : Tau} {E : XK} {m b : Nat} (h : EaD K (Mc c) tl τ [.adr c, .int (m : Int), .int (b : Int)]) (h1 : m ≤ 10) (h2 : b ≤ 10) : EvC K (Mc c) (Cup c) (tCall (spC K fSorts) [] E tl) () τ (SortsP m b) :=
  eu_call (es := [.int (m : Int), .int (b : Int)]) h ⟨m, b, h1, h2, rfl, rfl⟩ fun d hd => hd
/-- a calm routine -/
def fCalm : List D → (D → Prop) → Prop := fun ds Pd => ds = [] ∧ Pd = fun x => ∃ R : Ma.Routine, x = rD R ∧ Ma.VR R
abbrev nCalm : List Str := ["_law_cup_here", "_law_posts", "_law_found", "_law_post", "_law_moves", "_law_sort", "_law_back", "_law_later", "_law_foot"]
theorem scCalm : FnScope nCalm ["_law_cup_here"] (defScope (topS 35)) := ⟨rfl, rfl, rfl, by decide +kernel, rfl, by decide +kernel, by decide +kernel⟩
theorem ok_calm (T : Tx K mg) (a : At K mg "_law_calm" 35 ["_law_cup_here"]) (C1 : CalC P w K mg base "_law_roll" 1 ["_law_cup_here", "_law_many"] fRoll) (C2 : CalC P w K mg base "_law_some" 2 ["_law_cup_here", "_law_things"] fSome) (C3 : CalC P w K mg base "_law_sorts" 2 ["_law_cup_here", "_law_many", "_law_below"] fSorts) :
    CalC P w K mg base "_law_calm" 3 ["_law_cup_here"] fCalm := by
  obtain ⟨f1, fd1, G1, m1, k1, b1⟩ := C1
  obtain ⟨f2, fd2, G2, m2, k2, b2⟩ := C2
  obtain ⟨f3, fd3, G3, m3, k3, b3⟩ := C3
  refine calC a scCalm (fun ds Pd h => by obtain ⟨rfl, _⟩ := h; rfl) fun f cdv A outer s H E hr => ?_
  refine ⟨_, pss_cons (ps_par (i := 1) (j := 2) rfl scCalm.nd rfl rfl (by decide) rfl rfl (pa_cons (pe_op op_add pe_int (pe_call G2 hr (by rfl) m2 k2 b2 .nil pass0 (pa_cons (pv 0) (pa_cons (pe_lst (pa_cons pe_int (pa_cons pe_int (pa_cons pe_int (pa_cons pe_int (pa_cons pe_int (pa_cons pe_int (pa_cons pe_int pa_nil)))))))) pa_nil)))) (pa_cons (pe_tup pa_nil) pa_nil)) (by rfl))
    (pss_cons (ps_for PassesOwn.never rfl (pi_range1 (by rfl) T.range (pa_cons (pv 1) pa_nil)) (pg_name (i := 3) scCalm.nd rfl (.inl rfl))
      (pss_cons (ps_set (i := 4) scCalm.nd rfl (.inl rfl) (pe_tup pa_nil))
      (pss_cons (ps_for PassesOwn.never rfl (pi_range1 (by rfl) T.range (pa_cons pe_int pa_nil)) (pg_name (i := 5) scCalm.nd rfl (.inl rfl))
        (pss_cons (ps_set (i := 6) scCalm.nd rfl (.inl rfl) (pe_call G3 hr (by rfl) m3 k3 b3 .nil pass0 (pa_cons (pv 0) (pa_cons pe_int (pa_cons (pv 5) pa_nil)))))
        (pss_cons (ps_set (i := 7) scCalm.nd rfl (.inl rfl) (pe_ifExp (pt_cmpR op_eq (pe_call G1 (hr.mono (by decide)) (by rfl) m1 k1 b1 .nil pass0 (pa_cons (pv 0) (pa_cons pe_int pa_nil))) pe_int (nomark _)) (pe_un un_neg pe_int) (pe_call G1 (hr.mono (by decide)) (by rfl) m1 k1 b1 .nil pass0 (pa_cons (pv 0) (pa_cons (pv 1) pa_nil)))))
        (pss_one (ps_set (i := 4) scCalm.nd rfl (.inl rfl) (pe_op op_catA (pv 4) (pe_tup (pa_cons (pe_tup (pa_cons (pe_call G3 hr (by rfl) m3 k3 b3 .nil pass0 (pa_cons (pv 0) (pa_cons pe_int (pa_cons pe_int pa_nil)))) (pa_cons (pv 6) (pa_cons (pv 7) pa_nil)))) pa_nil))))))))
      (pss_cons (ps_set (i := 8) scCalm.nd rfl (.inl rfl) (pe_ifExp (PW.pt (pw_or (pt_cmpR op_eq (pe_op op_add (pv 3) pe_int) (pv 1) (nomark _)) (pw_or1 (pt_cmpR op_eq (pe_call G1 (hr.mono (by decide)) (by rfl) m1 k1 b1 .nil pass0 (pa_cons (pv 0) (pa_cons pe_int pa_nil))) pe_int (nomark _))))) (pe_un un_neg pe_int)
        (pe_op op_add (pe_op op_add (pv 3) pe_int) (pe_call G1 (hr.mono (by decide)) (by rfl) m1 k1 b1 .nil pass0 (pa_cons (pv 0) (pa_cons (pe_op op_sub (pe_op op_sub (pv 1) (pv 3)) pe_int) pa_nil))))))
      (pss_one (ps_set (i := 2) scCalm.nd rfl (.inl rfl) (pe_op op_catA (pv 2) (pe_tup (pa_cons (pe_op op_catA (pv 4) (pe_tup (pa_cons (pe_tup (pa_cons (pe_call G3 hr (by rfl) m3 k3 b3 .nil pass0 (pa_cons (pv 0) (pa_cons pe_int (pa_cons pe_int pa_nil)))) (pa_cons (pe_call G3 hr (by rfl) m3 k3 b3 .nil pass0 (pa_cons (pv 0) (pa_cons pe_int (pa_cons pe_int pa_nil)))) (pa_cons (pv 8) pa_nil)))) pa_nil))) pa_nil)))))))))
    (pss_one (ps_ret (pv 2)))), fun c ds Pd h => ?_⟩
  obtain ⟨rfl, rfl⟩ := h
  refine wc_seq (wc_par (eac_cons (eu_op (g := fun i j => i + j) (Pz := fun z => 1 ≤ z ∧ z ≤ 6) (eu_const (n := 1)) (eu_call (P := IntP fun i => 0 ≤ i ∧ i ≤ 5) (F := fSome) (es := [.lst (([0, 1, 1, 2, 2, 3, 5] : List Int).map D.int)]) (ea_cons (ed_var rfl) (ea_cons (ed_lst (ea_cons ed_int (ea_cons ed_int (ea_cons ed_int (ea_cons ed_int (ea_cons ed_int (ea_cons ed_int (ea_cons ed_int ea_nil))))))) (Nat.le_of_ble_eq_true rfl)) ea_nil)) ⟨([0, 1, 1, 2, 2, 3, 5] : List Int), by decide, by decide, rfl, rfl⟩ fun d hd => ?_) fun i j hi hj => ?_) fun s1 d1 h1 => eac_cons (ec_pure (ed_tup ea_nil (Nat.le_of_ble_eq_true rfl))) fun s2 d2 h2 => eac_nil ?_))
  · obtain ⟨i, rfl, hi⟩ := hd
    refine ⟨i, rfl, ?_⟩
    have : ∀ i ∈ ([0, 1, 1, 2, 2, 3, 5] : List Int), 0 ≤ i ∧ i ≤ 5 := by decide
    exact this i hi
  · subst hi
    exact ⟨rv_add, by omega, by omega⟩
  · obtain ⟨z, rfl, hz1, hz2⟩ := h1
    obtain ⟨_, rfl⟩ := h2
    refine ⟨_, _, rfl, ?_⟩
    obtain ⟨n, rfl⟩ : ∃ n : Nat, z = (n : Int) := ⟨z.toNat, (Int.toNat_of_nonneg (by omega)).symm⟩
    have hn1 : 1 ≤ n := by omega
    have hn6 : n ≤ 6 := by omega
    refine wc_seq (wc_range (n := n) (by omega) (eac_pure (ea_cons (ed_var (d := .int (n : Int)) rfl) ea_nil) ⟨rfl, rfl⟩) (I := fun i _ τ => ∃ (R : Ma.Routine) (x3 x4 x5 x6 x7 x8 : Option D), R.length = i ∧ (∀ post ∈ R, post.length = 4) ∧ (∀ post ∈ R, ∀ m ∈ post, Ma.VM n m) ∧ τ = [some (.adr c), some (.int (n : Int)), some (rD R), x3, x4, x5, x6, x7, x8]) ⟨[], none, none, none, none, none, none, rfl, (fun p h => nomatch h), (fun p h => nomatch h), rfl⟩ (fun i s1 τ1 hi hI => ?_) fun s1 τ1 hI => ?_)
    · obtain ⟨R, x3, x4, x5, x6, x7, x8, hl, h4, hv, rfl⟩ := hI
      refine wc_seq (wc_asg (ec_mono (ec_pure (ed_tup ea_nil (Nat.le_of_ble_eq_true rfl))) fun s' d h => ?_))
      obtain ⟨_, rfl⟩ := h
      refine wc_seq (wc_range (n := 3) (by omega) (eac_pure (ea_cons ed_int ea_nil) ⟨rfl, rfl⟩) (I := fun j _ τ => ∃ (ms : List Ma.Move) (x5 x6 x7 x8 : Option D), ms.length = j ∧ (∀ m ∈ ms, Ma.VM n m) ∧ τ = [some (.adr c), some (.int (n : Int)), some (rD R), some (.int (i : Int)), some (.tup (ms.map mD)), x5, x6, x7, x8]) ⟨[], x5, x6, x7, x8, rfl, (fun p h => nomatch h), rfl⟩ (fun j s1 τ1 hj hI => ?_) fun s1 τ1 hI => ?_)
      · obtain ⟨ms, x5, x6, x7, x8, hml, hmv, rfl⟩ := hI
        refine wc_seq (wc_asg (ec_mono (eu_sorts (m := 3) (b := j) (ea_cons (ed_var rfl) (ea_cons ed_int (ea_cons (ed_var rfl) ea_nil))) (by decide) (by omega)) fun s' d h => ?_))
        obtain ⟨bk, rfl, bk1, bk2⟩ := h
        refine wc_seq (wc_asg (ec_mono (ec_if (P := PostP n) (et_zero (A := fun _ => True) (ec_mono (eu_roll (m := 12) (ea_cons (ed_var rfl) (ea_cons ed_int ea_nil)) (by decide) (by decide)) fun s' d h => ?_)) (fun s1 _ => ec_mono (ec_pure (ed_un ed_int ru_neg)) fun s' d h => ?_) (fun s1 _ => ec_mono (eu_roll (m := n) (ea_cons (ed_var rfl) (ea_cons (ed_var rfl) ea_nil)) hn1 (by omega)) fun s' d h => ?_)) fun s' d h => ?_))
        · obtain ⟨r, rfl, _⟩ := h
          exact ⟨_, rfl, True.intro⟩
        · obtain ⟨_, rfl⟩ := h
          exact ⟨none, rfl, fun p h => nomatch h⟩
        · obtain ⟨r, rfl, hr⟩ := h
          exact ⟨some r, rfl, fun p h => by cases h; exact hr⟩
        · obtain ⟨o, rfl, ho⟩ := h
          refine wc_asg (ec_mono (ec_snoc (i := 4) (xs := ms.map mD) rfl (by rw [List.length_map]; omega) (ec_move (n := n) (eu_sorts (m := 2) (b := 3) (ea_cons (ed_var rfl) (ea_cons ed_int (ea_cons ed_int ea_nil))) (by decide) (by decide)) (ec_mono (ec_pure (ed_var (d := sD bk) rfl)) fun s' d h => ?_) (ec_mono (ec_pure (ed_var (d := eD o) rfl)) fun s' d h => ?_))) fun s' d h => ?_)
          · obtain ⟨_, rfl⟩ := h
            exact ⟨bk, rfl, bk1, fun x hx => by have := bk2 x hx; omega⟩
          · obtain ⟨_, rfl⟩ := h
            exact ⟨o, rfl, ho⟩
          · obtain ⟨x, rfl, m, rfl, hm⟩ := h
            refine ⟨ms ++ [m], some (.int (j : Int)), some (sD bk), some (eD o), x8, by rw [List.length_append, hml]; rfl, fun y hy => ?_, ?_⟩
            · rcases List.mem_append.mp hy with h | h
              · exact hmv y h
              · rw [List.mem_singleton.mp h]; exact hm
            · rw [List.map_append]; rfl
      · obtain ⟨ms, x5, x6, x7, x8, hml, hmv, rfl⟩ := hI
        refine wc_seq (wc_asg (ec_mono (ec_if (P := PostP n) (etc_or (Pa := fun _ b => b = decide ((i : Int) + 1 = (n : Int))) (Pb := fun _ b => b = false → i + 1 < n) (etc_test (ec_op' (ec_pure (ed_op (ed_var (d := .int (i : Int)) rfl) ed_int rv_add)) fun s1 d1 h1 => ?_)) (fun s1 _ h => nomatch h) fun s1 h1 => ?_) (fun s1 _ => ec_mono (ec_pure (ed_un ed_int ru_neg)) fun s' d h => ?_) (fun s1 hlt => ?_)) fun s' d h => ?_))
        · obtain ⟨_, rfl⟩ := h1
          exact ec_mono (ec_pure (ed_var (d := .int (n : Int)) rfl)) fun s' d h => by
            obtain ⟨_, rfl⟩ := h
            exact ⟨_, rv_eqI, _, rfl, rfl⟩
        · have hne : ¬ ((i : Int) + 1 = (n : Int)) := of_decide_eq_false h1.symm
          have hlt : i + 1 < n := by omega
          intro σ H r j Q q
          exact et_zero (A := fun _ => True) (ec_mono (eu_roll (m := 2) (ea_cons (ed_var rfl) (ea_cons ed_int ea_nil)) (by decide) (by decide)) fun s' d h => by
            obtain ⟨r, rfl, _⟩ := h
            exact ⟨_, rfl, True.intro⟩) σ H r j Q fun b H' s' l tr j' _ => q b H' s' l tr j' fun _ => hlt
        · obtain ⟨_, rfl⟩ := h
          exact ⟨none, rfl, fun p h => nomatch h⟩
        · have hlt := hlt rfl
          refine ec_op' (ec_pure (ed_op (ed_var (d := .int (i : Int)) rfl) ed_int rv_add)) fun s1 d1 h1 => ?_
          obtain ⟨_, rfl⟩ := h1
          refine ec_mono (eu_roll (m := n - i - 1) (ea_cons (ed_var rfl) (ea_cons (ed_is (ed_op (ed_op (ed_var (d := .int (n : Int)) rfl) (ed_var (d := .int (i : Int)) rfl) rv_sub) ed_int rv_sub) (congrArg D.int (by omega))) ea_nil)) (by omega) (by omega)) fun s' d h => ?_
          obtain ⟨r, rfl, hr⟩ := h
          exact ⟨_, rv_add, some (i + 1 + r), congrArg D.int (by omega), fun p h => by cases h; omega⟩
        · obtain ⟨o, rfl, ho⟩ := h
          refine wc_asg (ec_mono (ec_snoc (i := 2) (xs := R.map pD) rfl (by rw [List.length_map]; omega) (ec_snoc (i := 4) (xs := ms.map mD) rfl (by rw [List.length_map]; omega) (ec_move (n := n) (eu_sorts (m := 2) (b := 3) (ea_cons (ed_var rfl) (ea_cons ed_int (ea_cons ed_int ea_nil))) (by decide) (by decide)) (ec_mono (eu_sorts (m := 2) (b := 3) (ea_cons (ed_var rfl) (ea_cons ed_int (ea_cons ed_int ea_nil))) (by decide) (by decide)) fun s' d h => ?_) (ec_mono (ec_pure (ed_var (d := eD o) rfl)) fun s' d h => ?_)))) fun s' d h => ?_)
          · obtain ⟨l, rfl, h1, h2⟩ := h
            exact ⟨l, rfl, by omega, h2⟩
          · obtain ⟨_, rfl⟩ := h
            exact ⟨o, rfl, ho⟩
          · obtain ⟨x, rfl, y, rfl, m, rfl, hm⟩ := h
            refine ⟨R ++ [ms ++ [m]], some (.int (i : Int)), some (.tup (ms.map mD)), x5, x6, x7, some (eD o), by rw [List.length_append, hl]; rfl, fun p hp => ?_, fun p hp y hy => ?_, ?_⟩
            · rcases List.mem_append.mp hp with h | h
              · exact h4 p h
              · rw [List.mem_singleton.mp h, List.length_append, hml]; rfl
            · rcases List.mem_append.mp hp with h | h
              · exact hv p h y hy
              · rw [List.mem_singleton.mp h] at hy
                rcases List.mem_append.mp hy with h | h
                · exact hmv y h
                · rw [List.mem_singleton.mp h]; exact hm
            · have e1 : rD (R ++ [ms ++ [m]]) = .tup (R.map pD ++ [.tup (ms.map mD ++ [mD m])]) := by
                unfold rD
                rw [List.map_append]
                show D.tup (R.map pD ++ [pD (ms ++ [m])]) = _
                unfold pD
                rw [List.map_append]
                rfl
              rw [e1]
              rfl
    · obtain ⟨R, x3, x4, x5, x6, x7, x8, hl, h4, hv, rfl⟩ := hI
      exact wc_ret (ec_mono (ec_pure (ed_var (d := rD R) rfl)) fun s' d h => by
        obtain ⟨_, rfl⟩ := h
        exact ⟨R, rfl, ⟨by omega, by omega, h4, by rw [hl]; exact hv⟩⟩)
/-- a wild routine -/
abbrev nWild : List Str := ["_law_cup_here", "_law_found", "_law_turn", "_law_post", "_law_sort", "_law_later", "_law_move", "_law_moves"]
theorem scWild : FnScope nWild ["_law_cup_here"] (defScope (topS 36)) := ⟨rfl, rfl, rfl, by decide +kernel, rfl, by decide +kernel, by decide +kernel⟩
theorem mem_mid {α : Type} {xs : List α} {k : Nat} {y x : α} (h : x ∈ xs.take k ++ [y] ++ xs.drop (k + 1)) : x ∈ xs ∨ x = y := by
  rcases List.mem_append.mp h with h | h
  · rcases List.mem_append.mp h with h | h
    · exact .inl (List.mem_of_mem_take h)
    · exact .inr (List.mem_singleton.mp h)
  · exact .inl (List.mem_of_mem_drop h)
theorem len_mid {α : Type} {xs : List α} {k : Nat} {y : α} (h : k < xs.length) : (xs.take k ++ [y] ++ xs.drop (k + 1)).length = xs.length := by
  rw [List.length_append, List.length_append, List.length_take, List.length_drop, List.length_singleton]
  omega
theorem ok_wild (T : Tx K mg) (a : At K mg "_law_wild" 36 ["_law_cup_here"]) (C1 : CalC P w K mg base "_law_roll" 1 ["_law_cup_here", "_law_many"] fRoll) (C2 : CalC P w K mg base "_law_some" 2 ["_law_cup_here", "_law_things"] fSome) (C3 : CalC P w K mg base "_law_sorts" 2 ["_law_cup_here", "_law_many", "_law_below"] fSorts)
    (C4 : CalC P w K mg base "_law_calm" 3 ["_law_cup_here"] fCalm) : CalC P w K mg base "_law_wild" 4 ["_law_cup_here"] fCalm := by
  obtain ⟨f1, fd1, G1, m1, k1, b1⟩ := C1
  obtain ⟨f2, fd2, G2, m2, k2, b2⟩ := C2
  obtain ⟨f3, fd3, G3, m3, k3, b3⟩ := C3
  obtain ⟨f4, fd4, G4, m4, k4, b4⟩ := C4
  refine calC a scWild (fun ds Pd h => by obtain ⟨rfl, _⟩ := h; rfl) fun f cdv A outer s H E hr => ?_
  refine ⟨_, pss_cons (ps_set (i := 1) scWild.nd rfl (.inl rfl) (pe_call G4 hr (by rfl) m4 k4 b4 .nil pass0 (pa_cons (pv 0) pa_nil)))
    (pss_cons (ps_for PassesOwn.never rfl (pi_range1 (by rfl) T.range (pa_cons (pe_call G2 (hr.mono (by decide)) (by rfl) m2 k2 b2 .nil pass0 (pa_cons (pv 0) (pa_cons (pe_lst (pa_cons pe_int (pa_cons pe_int (pa_cons pe_int (pa_cons pe_int (pa_cons pe_int pa_nil)))))) pa_nil))) pa_nil)) (pg_name (i := 2) scWild.nd rfl (.inl rfl))
      (pss_cons (ps_par (i := 3) (j := 4) rfl scWild.nd rfl rfl (by decide) rfl rfl (pa_cons (pe_call G1 (hr.mono (by decide)) (by rfl) m1 k1 b1 .nil pass0 (pa_cons (pv 0) (pa_cons (pe_callB call_len_seq (by rfl) T.len PySem.boot_len (pa_cons (pv 1) pa_nil)) pa_nil))) (pa_cons (pe_call G1 (hr.mono (by decide)) (by rfl) m1 k1 b1 .nil pass0 (pa_cons (pv 0) (pa_cons pe_int pa_nil))) pa_nil)) (by rfl))
      (pss_cons (ps_set (i := 5) scWild.nd rfl (.inl rfl) (pe_op op_sub (pe_call G1 (hr.mono (by decide)) (by rfl) m1 k1 b1 .nil pass0 (pa_cons (pv 0) (pa_cons (pe_op op_add (pe_callB call_len_seq (by rfl) T.len PySem.boot_len (pa_cons (pv 1) pa_nil)) pe_int) pa_nil))) pe_int))
      (pss_cons (ps_set (i := 6) scWild.nd rfl (.inl rfl) (pe_tup (pa_cons (pe_call G3 (hr.mono (by decide)) (by rfl) m3 k3 b3 .nil pass0 (pa_cons (pv 0) (pa_cons pe_int (pa_cons pe_int pa_nil)))) (pa_cons (pe_call G3 (hr.mono (by decide)) (by rfl) m3 k3 b3 .nil pass0 (pa_cons (pv 0) (pa_cons pe_int (pa_cons pe_int pa_nil)))) (pa_cons (pv 5) pa_nil)))))
      (pss_cons (ps_set (i := 7) scWild.nd rfl (.inl rfl) (pe_op op_catA (pe_op op_catA (pe_slice sl_tupA (pe_ix ix_tup (pv 1) (pv 3) (fun _ _ => rfl)) po_none (po_some (pv 4))) (pe_tup (pa_cons (pv 6) pa_nil))) (pe_slice sl_tupA (pe_ix ix_tup (pv 1) (pv 3) (fun _ _ => rfl)) (po_some (pe_op op_add (pv 4) pe_int)) po_none)))
      (pss_one (ps_set (i := 1) scWild.nd rfl (.inl rfl) (pe_op op_catA (pe_op op_catA (pe_slice sl_tupA (pv 1) po_none (po_some (pv 3))) (pe_tup (pa_cons (pv 7) pa_nil))) (pe_slice sl_tupA (pv 1) (po_some (pe_op op_add (pv 3) pe_int)) po_none)))))))))
    (pss_one (ps_ret (pv 1)))), fun c ds Pd h => ?_⟩
  obtain ⟨rfl, rfl⟩ := h
  refine wc_seq (wc_asg (eu_call (es := []) (ea_cons (ed_var rfl) ea_nil) ⟨rfl, rfl⟩ fun d hd => ?_))
  obtain ⟨R, rfl, v⟩ := hd
  refine wc_seq (wc_rangeP 4 (by decide) (I := fun _ τ => ∃ (R : Ma.Routine) (x2 x3 x4 x5 x6 x7 : Option D), Ma.VR R ∧ τ = [some (.adr c), some (rD R), x2, x3, x4, x5, x6, x7]) (eac_cons (eu_call (P := IntP fun i => 0 ≤ i ∧ i ≤ 4) (F := fSome) (es := [.lst (([0, 1, 1, 2, 4] : List Int).map D.int)]) (ea_cons (ed_var rfl) (ea_cons (ed_lst (ea_cons ed_int (ea_cons ed_int (ea_cons ed_int (ea_cons ed_int (ea_cons ed_int ea_nil))))) (Nat.le_of_ble_eq_true rfl)) ea_nil)) ⟨([0, 1, 1, 2, 4] : List Int), by decide, by decide, rfl, rfl⟩ fun d hd => ?_) fun s1 d1 h1 => eac_nil ?_) (fun i s1 τ1 hI => ?_) fun s1 τ1 hI => ?_)
  · obtain ⟨i, rfl, hi⟩ := hd
    refine ⟨i, rfl, ?_⟩
    have : ∀ i ∈ ([0, 1, 1, 2, 4] : List Int), 0 ≤ i ∧ i ≤ 4 := by decide
    exact this i hi
  · obtain ⟨i, rfl, h0, h4⟩ := h1
    exact ⟨i.toNat, by omega, by rw [Int.toNat_of_nonneg h0], R, none, none, none, none, none, none, v, rfl⟩
  · obtain ⟨R, x2, x3, x4, x5, x6, x7, v, rfl⟩ := hI
    have hlo := v.lo
    have hhi := v.hi
    refine wc_seq (wc_par (eac_cons (eu_roll (m := R.length) (ea_cons (ed_var rfl) (ea_cons (ed_is (ed_cb (ea_cons (ed_var (d := rD R) rfl) ea_nil) rc_lenT) (by rw [List.length_map])) ea_nil)) hlo (by omega)) fun s1 d1 h1 => eac_cons (eu_roll (m := 4) (ea_cons (ed_var rfl) (ea_cons ed_int ea_nil)) (by decide) (by decide)) fun s2 d2 h2 => eac_nil ?_))
    obtain ⟨p, rfl, hp⟩ := h1
    obtain ⟨s, rfl, hs⟩ := h2
    refine ⟨_, _, rfl, ?_⟩
    refine wc_seq (wc_asg (ec_mono (P := PostP R.length) (ec_op' (eu_roll (m := R.length + 1) (ea_cons (ed_var rfl) (ea_cons (ed_is (ed_op (ed_cb (ea_cons (ed_var (d := rD R) rfl) ea_nil) rc_lenT) ed_int rv_add) (by rw [List.length_map, Int.natCast_add]; rfl)) ea_nil)) (by omega) (by omega)) fun s1 d1 h1 => ?_) fun s' d h => ?_))
    · obtain ⟨r, rfl, hr⟩ := h1
      refine ec_mono (ec_pure ed_int) fun s' d h => ?_
      obtain ⟨_, rfl⟩ := h
      cases r with
      | zero => exact ⟨_, rv_sub, none, rfl, fun p h => nomatch h⟩
      | succ r => exact ⟨_, rv_sub, some r, congrArg D.int (by omega), fun p h => by cases h; omega⟩
    · obtain ⟨o, rfl, ho⟩ := h
      refine wc_seq (wc_asg (ec_mono (ec_move (n := R.length) (eu_sorts (m := 2) (b := 3) (ea_cons (ed_var rfl) (ea_cons ed_int (ea_cons ed_int ea_nil))) (by decide) (by decide)) (eu_sorts (m := 3) (b := 3) (ea_cons (ed_var rfl) (ea_cons ed_int (ea_cons ed_int ea_nil))) (by decide) (by decide)) (ec_mono (ec_pure (ed_var (d := eD o) rfl)) fun s' d h => ?_)) fun s' d h => ?_))
      · obtain ⟨_, rfl⟩ := h
        exact ⟨o, rfl, ho⟩
      · obtain ⟨m, rfl, vm⟩ := h
        have hpost : R[p]? = some R[p] := List.getElem?_eq_getElem hp
        have h4 : R[p].length = 4 := v.four _ (List.getElem_mem hp)
        have e1 : L2.atI (R.map pD) (p : Int) = some (pD R[p]) := atI_nat' (by rw [List.getElem?_map, hpost]; rfl)
        have c1 : PD.cutD (R[p].map mD) none (some (s : Int)) = (R[p].take s).map mD := by rw [cutTo, List.map_take]
        have c2 : PD.cutD (R[p].map mD) (some ((s : Int) + 1)) none = (R[p].drop (s + 1)).map mD := by
          rw [show ((s : Int) + 1) = ((s + 1 : Nat) : Int) by omega, cutFrom, List.map_drop]
        have c3 : PD.cutD (R.map pD) none (some (p : Int)) = (R.take p).map pD := by rw [cutTo, List.map_take]
        have c4 : PD.cutD (R.map pD) (some ((p : Int) + 1)) none = (R.drop (p + 1)).map pD := by
          rw [show ((p : Int) + 1) = ((p + 1 : Nat) : Int) by omega, cutFrom, List.map_drop]
        have epost : EvD K (Mc c) _ [some (.adr c), some (rD R), some (.int (i : Int)), some (.int (p : Int)), some (.int (s : Int)), some (eD o), some (mD m), x7] (.tup (R[p].map mD)) := ed_op (ed_var (i := 1) (d := rD R) rfl) (ed_var (i := 3) (d := .int (p : Int)) rfl) (rv_ixT e1)
        refine wc_seq (wc_asg (ec_mono (ec_pure (ed_is (ed_op (ed_op (ed_slT epost eo_none (eo_some (ed_var (d := .int (s : Int)) rfl))) (ed_tup (ea_cons (ed_var (d := mD m) rfl) ea_nil) (Nat.le_of_ble_eq_true rfl)) (rv_cat ?_)) (ed_slT epost (eo_some (ed_op (ed_var (d := .int (s : Int)) rfl) ed_int rv_add)) eo_none) (rv_cat ?_)) (e := pD (R[p].take s ++ [m] ++ R[p].drop (s + 1))) ?_)) fun s' d h => ?_))
        · rw [c1, List.length_map, List.length_take]
          show _ + 1 ≤ 100000
          omega
        · rw [c1, c2, List.length_append, List.length_map, List.length_map, List.length_take, List.length_drop]
          show _ + 1 + _ ≤ 100000
          omega
        · rw [c1, c2]
          unfold pD
          rw [List.map_append, List.map_append]
          rfl
        · obtain ⟨_, rfl⟩ := h
          refine wc_asg (ec_mono (ec_pure (ed_is (ed_op (ed_op (ed_slT (ed_var (i := 1) (d := rD R) rfl) eo_none (eo_some (ed_var (d := .int (p : Int)) rfl))) (ed_tup (ea_cons (ed_var (d := pD (R[p].take s ++ [m] ++ R[p].drop (s + 1))) rfl) ea_nil) (Nat.le_of_ble_eq_true rfl)) (rv_cat ?_)) (ed_slT (ed_var (i := 1) (d := rD R) rfl) (eo_some (ed_op (ed_var (d := .int (p : Int)) rfl) ed_int rv_add)) eo_none) (rv_cat ?_)) (e := rD (R.take p ++ [R[p].take s ++ [m] ++ R[p].drop (s + 1)] ++ R.drop (p + 1))) ?_)) fun s' d h => ?_)
          · rw [c3, List.length_map, List.length_take]
            show _ + 1 ≤ 100000
            omega
          · rw [c3, c4, List.length_append, List.length_map, List.length_map, List.length_take, List.length_drop]
            show _ + 1 + _ ≤ 100000
            omega
          · rw [c3, c4]
            unfold rD
            rw [List.map_append, List.map_append]
            rfl
          · obtain ⟨_, rfl⟩ := h
            have hlen := len_mid (xs := R) (y := R[p].take s ++ [m] ++ R[p].drop (s + 1)) hp
            refine ⟨R.take p ++ [R[p].take s ++ [m] ++ R[p].drop (s + 1)] ++ R.drop (p + 1), some (.int (i : Int)), some (.int (p : Int)), some (.int (s : Int)), some (eD o), some (mD m), some (pD (R[p].take s ++ [m] ++ R[p].drop (s + 1))), ⟨by rw [hlen]; exact hlo, by rw [hlen]; exact hhi, fun q hq => ?_, fun q hq y hy => ?_⟩, rfl⟩
            · rcases mem_mid hq with h | h
              · exact v.four q h
              · rw [h, len_mid (by omega)]; exact h4
            · rw [hlen]
              rcases mem_mid hq with h | h
              · exact v.mv q h y hy
              · rw [h] at hy
                rcases mem_mid hy with h | h
                · exact v.mv _ (List.getElem_mem hp) y h
                · rw [h]; exact vm
  · obtain ⟨R, x2, x3, x4, x5, x6, x7, v, rfl⟩ := hI
    exact wc_ret (ec_mono (ec_pure (ed_var (d := rD R) rfl)) fun s' d h => by
      obtain ⟨_, rfl⟩ := h
      exact ⟨R, rfl, v⟩)
end
end Sp
namespace Sp
open PySem PySem.Spec PyProof.Rows L2 PD PDX
def okMove (n : Nat) (m : Ma.Move) : Bool := decide (m.1.length ≤ 2) && (m.1.all fun x => decide (x < 3)) && decide (m.2.1.length ≤ 3) && (m.2.1.all fun x => decide (x < 3)) && (match m.2.2 with | none => true | some p => decide (p < n))
def okR (R : Ma.Routine) : Bool := decide (1 ≤ R.length) && decide (R.length ≤ 6) && R.all fun post => decide (post.length = 4) && post.all (okMove R.length)
theorem vm_of {n : Nat} {m : Ma.Move} (h : okMove n m = true) : Ma.VM n m := by
  unfold okMove at h
  rw [Bool.and_eq_true, Bool.and_eq_true, Bool.and_eq_true, Bool.and_eq_true] at h
  obtain ⟨⟨⟨⟨h1, h2⟩, h3⟩, h4⟩, h5⟩ := h
  refine ⟨of_decide_eq_true h1, fun x hx => of_decide_eq_true (List.all_eq_true.mp h2 x hx), of_decide_eq_true h3, fun x hx => of_decide_eq_true (List.all_eq_true.mp h4 x hx), fun p hp => ?_⟩
  rw [hp] at h5
  exact of_decide_eq_true h5
theorem vr_of {R : Ma.Routine} (h : okR R = true) : Ma.VR R := by
  unfold okR at h
  rw [Bool.and_eq_true, Bool.and_eq_true] at h
  obtain ⟨⟨h1, h2⟩, h3⟩ := h
  rw [List.all_eq_true] at h3
  refine ⟨of_decide_eq_true h1, of_decide_eq_true h2, fun post hp => ?_, fun post hp m hm => ?_⟩
  · have := h3 post hp
    rw [Bool.and_eq_true] at this
    exact of_decide_eq_true this.1
  · have := h3 post hp
    rw [Bool.and_eq_true, List.all_eq_true] at this
    exact vm_of (this.2 m hm)
def litRing : Ma.Routine := [[([], [], some 0), ([], [], some 0), ([], [], some 0), ([], [], none)], [([], [0], some 1), ([], [], some 1), ([], [], some 1), ([], [], some 1)]]
def farR (i : Nat) : Ma.Routine := (List.range i).map fun p => [([], [], some 0), ([], [], some 0), ([], [], some (p + 1)), ([], [], none)]
def litLast : Ma.Routine := farR 5 ++ [[([], [], some 0), ([], [2, 1], some 5), ([], [], some 5), ([], [], none)]]
def litEnd : Ma.Routine := farR 5 ++ [[([], [], some 0), ([], [], some 0), ([], [], some 0), ([], [], some 5)]]
def litFoot : Ma.Routine := [[([], [], some 0), ([], [], some 1), ([], [], some 0), ([], [], none)], [([], [], some 0), ([], [], some 1), ([], [], some 1), ([], [1], some 1)]]
def litHides : Ma.Routine := [[([], [], none), ([], [0, 2], some 0), ([], [2], some 0), ([], [1], some 0)]]
theorem v_R : Ma.VR litR := vr_of (by decide +kernel)
theorem v_U : Ma.VR litU := vr_of (by decide +kernel)
theorem v_V : Ma.VR litV := vr_of (by decide +kernel)
theorem v_ring : Ma.VR litRing := vr_of (by decide +kernel)
theorem v_last : Ma.VR litLast := vr_of (by decide +kernel)
theorem v_end : Ma.VR litEnd := vr_of (by decide +kernel)
theorem v_foot : Ma.VR litFoot := vr_of (by decide +kernel)
theorem v_hides : Ma.VR litHides := vr_of (by decide +kernel)
theorem l_R : Ma.leastM (Ma.sem litR) = none := by decide +kernel
theorem l_U : Ma.leastM (Ma.sem litU) = some [0] := by decide +kernel
theorem l_V : Ma.leastM (Ma.sem litV) = none := by decide +kernel
theorem l_ring : Ma.leastM (Ma.sem litRing) = none := by decide +kernel
theorem l_last : Ma.leastM (Ma.sem litLast) = some [2, 2, 2, 2, 2, 1] := by decide +kernel
theorem l_end : Ma.leastM (Ma.sem litEnd) = some [2, 2, 2, 2, 2] := by decide +kernel
theorem l_foot : Ma.leastM (Ma.sem litFoot) = some [1] := by decide +kernel
theorem l_hides : Ma.leastM (Ma.sem litHides) = some [2] := by decide +kernel
theorem t_hides : Ma.toldOn (Ma.sem litHides) [1, 2] = some ([], [2, 2], 2) := by decide +kernel
section
variable {K : PySem.W.Frag} {M : Addr → Prop} {te : TE} {τ : Tau}
theorem ed_none {E : XK} {R : Ma.Routine} (h : EvD K M te τ (rD R)) (v : Ma.VR R) (e : Ma.leastM (Ma.sem R) = none) : EvD K M (tCall (spD K fLeast) [] E (tCons te tNil)) τ .non :=
  ed_is (ed_callD (ea_cons h ea_nil) ⟨R, v, rfl, rfl⟩) (by rw [e]; rfl)
theorem ed_some {E : XK} {R : Ma.Routine} {l : List Nat} (h : EvD K M te τ (rD R)) (v : Ma.VR R) (e : Ma.leastM (Ma.sem R) = some l) : EvD K M (tCall (spD K fLeast) [] E (tCons te tNil)) τ (sD l) :=
  ed_is (ed_callD (ea_cons h ea_nil) ⟨R, v, rfl, rfl⟩) (by rw [e]; rfl)
theorem rv_neSame (l : List Nat) : RvD K M (rNeD K) (sD l) (sD l) (.bl false) := by
  have h := rv_neD (K := K) (M := M) (sD_no l) (sD_no l) (sD_shaped l) (sD_shaped l)
  rw [eqv_sD, decide_eq_true rfl] at h
  exact h
theorem rv_eqSame (l : List Nat) : RvD K M (rEqD K) (sD l) (sD l) (.bl true) := by
  have h := rv_eqD (K := K) (M := M) (sD_no l) (sD_no l) (sD_shaped l) (sD_shaped l)
  rw [eqv_sD, decide_eq_true rfl] at h
  exact h
theorem rv_eqRun (r : List Nat × List Nat × Nat) (e : PyData.eqv (toP (runD (some r))) (toP (runD (some r))) = true) : RvD K M (rEqD K) (runD (some r)) (runD (some r)) (.bl true) := by
  have h := rv_eqD (K := K) (M := M) (runD_no (some r)) (runD_no (some r)) (runD_shaped (some r)) (runD_shaped (some r))
  rw [e] at h
  exact h
end
section
variable {P : Program} {w : World} {K : PySem.W.Frag} {mg : Str → Option Value} {base : Heap}
def spLaw (K : PySem.W.Frag) : L2.Sp := fun vs H Q _ => ∃ (a : Addr) (ns : List Int), vs = [.ref a] ∧ SqL K H a (ns.map V.int) ∧ ns.length ≤ 63 ∧ ∀ H', Q (.bl true) H'
abbrev nLaw : List Str := ["_law_script", "_law_cup_here", "_law_turn", "_law_calm_here", "_law_ring", "_law_far", "_law_post", "_law_last", "_law_foot", "_law_hides"]
theorem scLaw : FnScope nLaw ["_law_script"] (defScope (topS 47)) := ⟨rfl, rfl, rfl, by decide +kernel, rfl, by decide +kernel, by decide +kernel⟩
theorem ok_law {f : Addr} {fd : FuncData} (T : Tx K mg) (U : Fun K "law" "law" (topS 47) f fd) (CP : CalU P w K mg base "_law_cup" 1 ["_law_script"]) (CR : Cal P w K mg base "_law_right" 7 ["_law_routine"] fRight)
    (CW : CalC P w K mg base "_law_wild" 4 ["_law_cup_here"] fCalm) (CC : CalC P w K mg base "_law_calm" 3 ["_law_cup_here"] fCalm) (CE : Cal P w K mg base "endless_stack" 6 ["routine"] fLeast) (CT : Cal P w K mg base "told_on" 6 ["routine", "stack"] fToldOn)
    (C1 : Cal P w K mg base "_law_r" 1 [] (fLit litR)) (C2 : Cal P w K mg base "_law_u" 1 [] (fLit litU)) (C3 : Cal P w K mg base "_law_v" 1 [] (fLit litV)) : FnOk P w K mg base CX0 8 f fd ["_law_script"] (spLaw K) := by
  obtain ⟨fP, fdP, GP, mP, kP, bP⟩ := CP
  obtain ⟨fR, fdR, GR, mR, kR, bR⟩ := CR
  obtain ⟨fW, fdW, GW, mW, kW, bW⟩ := CW
  obtain ⟨fC, fdC, GC, mC, kC, bC⟩ := CC
  obtain ⟨fE, fdE, GE, mE, kE, bE⟩ := CE
  obtain ⟨fT, fdT, GT, mT, kT, bT⟩ := CT
  obtain ⟨f1, fd1, G1, m1, k1, b1⟩ := C1
  obtain ⟨f2, fd2, G2, m2, k2, b2⟩ := C2
  obtain ⟨f3, fd3, G3, m3, k3, b3⟩ := C3
  refine U.ok scLaw (fun vs H Q E h => ?_) (fun cdv A outer s H vs Q E hr h => ?_)
  · obtain ⟨a, ns, rfl, _⟩ := h
    rfl
  obtain ⟨a, ns, rfl, hS, hlen, q⟩ := h
  refine ⟨_, pss_cons (ps_set (i := 1) scLaw.nd rfl (.inl rfl) (pe_call GP (hr.mono (by decide)) (by rfl) mP kP bP .nil pass0 (pa_cons (pv 0) pa_nil)))
    (pss_cons (ps_for PassesOwn.never rfl (pi_range1 (by rfl) T.range (pa_cons pe_int pa_nil)) (pg_name (i := 2) scLaw.nd rfl (.inl rfl))
      (pss_one (ps_if (PW.pt (pw_or (pt_not (pt_val (pe_call GR hr (by rfl) mR kR bR .nil pass0 (pa_cons (pe_call GW (hr.mono (by decide)) (by rfl) mW kW bW .nil pass0 (pa_cons (pv 1) pa_nil)) pa_nil)))) (pw_or1 (pt_not (pt_val (pe_call GR hr (by rfl) mR kR bR .nil pass0 (pa_cons (pe_call GC (hr.mono (by decide)) (by rfl) mC kC bC .nil pass0 (pa_cons (pv 1) pa_nil)) pa_nil))))))) (pss_one (ps_ret pe_bl)) pss_nil)))
    (pss_cons (ps_if (PW.pt (pw_or (pt_cmpR op_notN (pe_call GE (hr.mono (by decide)) (by rfl) mE kE bE .nil pass0 (pa_cons (pe_call0 G1 (hr.mono (by decide)) (by rfl) m1 k1 b1 .nil pass0) pa_nil)) pe_non (nomark _)) (pw_or (pt_cmpR (op_neD hr.units) (pe_call GE (hr.mono (by decide)) (by rfl) mE kE bE .nil pass0 (pa_cons (pe_call0 G2 (hr.mono (by decide)) (by rfl) m2 k2 b2 .nil pass0) pa_nil)) (pe_tup (pa_cons pe_int pa_nil)) (nomark _)) (pw_or1 (pt_cmpR op_notN (pe_call GE (hr.mono (by decide)) (by rfl) mE kE bE .nil pass0 (pa_cons (pe_call0 G3 (hr.mono (by decide)) (by rfl) m3 k3 b3 .nil pass0) pa_nil)) pe_non (nomark _)))))) (pss_one (ps_ret pe_bl)) pss_nil)
    (pss_cons (ps_asg (pe_tup (pa_cons (pe_tup (pa_cons (pe_tup (pa_cons (pe_tup pa_nil) (pa_cons (pe_tup pa_nil) (pa_cons pe_int pa_nil)))) (pa_cons (pe_tup (pa_cons (pe_tup pa_nil) (pa_cons (pe_tup pa_nil) (pa_cons pe_int pa_nil)))) (pa_cons (pe_tup (pa_cons (pe_tup pa_nil) (pa_cons (pe_tup pa_nil) (pa_cons pe_int pa_nil)))) (pa_cons (pe_tup (pa_cons (pe_tup pa_nil) (pa_cons (pe_tup pa_nil) (pa_cons (pe_un un_neg pe_int) pa_nil)))) pa_nil))))) (pa_cons (pe_tup (pa_cons (pe_tup (pa_cons (pe_tup pa_nil) (pa_cons (pe_tup (pa_cons pe_int pa_nil)) (pa_cons pe_int pa_nil)))) (pa_cons (pe_tup (pa_cons (pe_tup pa_nil) (pa_cons (pe_tup pa_nil) (pa_cons pe_int pa_nil)))) (pa_cons (pe_tup (pa_cons (pe_tup pa_nil) (pa_cons (pe_tup pa_nil) (pa_cons pe_int pa_nil)))) (pa_cons (pe_tup (pa_cons (pe_tup pa_nil) (pa_cons (pe_tup pa_nil) (pa_cons pe_int pa_nil)))) pa_nil))))) pa_nil))) (pg_tup rfl (pgs_cons (pg_name (i := 3) scLaw.nd rfl (.inl rfl)) (pgs_cons (pg_name (i := 4) scLaw.nd rfl (.inl rfl)) pgs_nil))))
    (pss_cons (ps_if (pt_cmpR op_notN (pe_call GE (hr.mono (by decide)) (by rfl) mE kE bE .nil pass0 (pa_cons (pe_tup (pa_cons (pv 3) (pa_cons (pv 4) pa_nil))) pa_nil)) pe_non (nomark _)) (pss_one (ps_ret pe_bl)) pss_nil)
    (pss_cons (ps_set (i := 5) scLaw.nd rfl (.inl rfl) (pe_tup pa_nil))
    (pss_cons (ps_for PassesOwn.never rfl (pi_range1 (by rfl) T.range (pa_cons pe_int pa_nil)) (pg_name (i := 6) scLaw.nd rfl (.inl rfl))
      (pss_one (ps_set (i := 5) scLaw.nd rfl (.inl rfl) (pe_op op_catA (pv 5) (pe_tup (pa_cons (pe_tup (pa_cons (pe_tup (pa_cons (pe_tup pa_nil) (pa_cons (pe_tup pa_nil) (pa_cons pe_int pa_nil)))) (pa_cons (pe_tup (pa_cons (pe_tup pa_nil) (pa_cons (pe_tup pa_nil) (pa_cons pe_int pa_nil)))) (pa_cons (pe_tup (pa_cons (pe_tup pa_nil) (pa_cons (pe_tup pa_nil) (pa_cons (pe_op op_add (pv 6) pe_int) pa_nil)))) (pa_cons (pe_tup (pa_cons (pe_tup pa_nil) (pa_cons (pe_tup pa_nil) (pa_cons (pe_un un_neg pe_int) pa_nil)))) pa_nil))))) pa_nil))))))
    (pss_cons (ps_set (i := 7) scLaw.nd rfl (.inl rfl) (pe_tup (pa_cons (pe_tup (pa_cons (pe_tup (pa_cons (pe_tup pa_nil) (pa_cons (pe_tup pa_nil) (pa_cons pe_int pa_nil)))) (pa_cons (pe_tup (pa_cons (pe_tup pa_nil) (pa_cons (pe_tup (pa_cons pe_int (pa_cons pe_int pa_nil))) (pa_cons pe_int pa_nil)))) (pa_cons (pe_tup (pa_cons (pe_tup pa_nil) (pa_cons (pe_tup pa_nil) (pa_cons pe_int pa_nil)))) (pa_cons (pe_tup (pa_cons (pe_tup pa_nil) (pa_cons (pe_tup pa_nil) (pa_cons (pe_un un_neg pe_int) pa_nil)))) pa_nil))))) pa_nil)))
    (pss_cons (ps_if (pt_cmpR (op_neD hr.units) (pe_call GE (hr.mono (by decide)) (by rfl) mE kE bE .nil pass0 (pa_cons (pe_op op_catA (pv 5) (pv 7)) pa_nil)) (pe_tup (pa_cons pe_int (pa_cons pe_int (pa_cons pe_int (pa_cons pe_int (pa_cons pe_int (pa_cons pe_int pa_nil))))))) (nomark _)) (pss_one (ps_ret pe_bl)) pss_nil)
    (pss_cons (ps_if (pt_cmpR (op_neD hr.units) (pe_call GE (hr.mono (by decide)) (by rfl) mE kE bE .nil pass0 (pa_cons (pe_op op_catA (pv 5) (pe_tup (pa_cons (pe_tup (pa_cons (pe_tup (pa_cons (pe_tup pa_nil) (pa_cons (pe_tup pa_nil) (pa_cons pe_int pa_nil)))) (pa_cons (pe_tup (pa_cons (pe_tup pa_nil) (pa_cons (pe_tup pa_nil) (pa_cons pe_int pa_nil)))) (pa_cons (pe_tup (pa_cons (pe_tup pa_nil) (pa_cons (pe_tup pa_nil) (pa_cons pe_int pa_nil)))) (pa_cons (pe_tup (pa_cons (pe_tup pa_nil) (pa_cons (pe_tup pa_nil) (pa_cons pe_int pa_nil)))) pa_nil))))) pa_nil))) pa_nil)) (pe_op op_repT (pe_tup (pa_cons pe_int pa_nil)) pe_int) (nomark _)) (pss_one (ps_ret pe_bl)) pss_nil)
    (pss_cons (ps_set (i := 8) scLaw.nd rfl (.inl rfl) (pe_tup (pa_cons (pe_tup (pa_cons (pe_tup (pa_cons (pe_tup pa_nil) (pa_cons (pe_tup pa_nil) (pa_cons pe_int pa_nil)))) (pa_cons (pe_tup (pa_cons (pe_tup pa_nil) (pa_cons (pe_tup pa_nil) (pa_cons pe_int pa_nil)))) (pa_cons (pe_tup (pa_cons (pe_tup pa_nil) (pa_cons (pe_tup pa_nil) (pa_cons pe_int pa_nil)))) (pa_cons (pe_tup (pa_cons (pe_tup pa_nil) (pa_cons (pe_tup pa_nil) (pa_cons (pe_un un_neg pe_int) pa_nil)))) pa_nil))))) (pa_cons (pe_tup (pa_cons (pe_tup (pa_cons (pe_tup pa_nil) (pa_cons (pe_tup pa_nil) (pa_cons pe_int pa_nil)))) (pa_cons (pe_tup (pa_cons (pe_tup pa_nil) (pa_cons (pe_tup pa_nil) (pa_cons pe_int pa_nil)))) (pa_cons (pe_tup (pa_cons (pe_tup pa_nil) (pa_cons (pe_tup pa_nil) (pa_cons pe_int pa_nil)))) (pa_cons (pe_tup (pa_cons (pe_tup pa_nil) (pa_cons (pe_tup (pa_cons pe_int pa_nil)) (pa_cons pe_int pa_nil)))) pa_nil))))) pa_nil))))
    (pss_cons (ps_set (i := 9) scLaw.nd rfl (.inl rfl) (pe_tup (pa_cons (pe_tup (pa_cons (pe_tup (pa_cons (pe_tup pa_nil) (pa_cons (pe_tup pa_nil) (pa_cons (pe_un un_neg pe_int) pa_nil)))) (pa_cons (pe_tup (pa_cons (pe_tup pa_nil) (pa_cons (pe_tup (pa_cons pe_int (pa_cons pe_int pa_nil))) (pa_cons pe_int pa_nil)))) (pa_cons (pe_tup (pa_cons (pe_tup pa_nil) (pa_cons (pe_tup (pa_cons pe_int pa_nil)) (pa_cons pe_int pa_nil)))) (pa_cons (pe_tup (pa_cons (pe_tup pa_nil) (pa_cons (pe_tup (pa_cons pe_int pa_nil)) (pa_cons pe_int pa_nil)))) pa_nil))))) pa_nil)))
    (pss_one (ps_ret (pe_and (pe_cmpR (op_eqD hr.units) (pe_call GE (hr.mono (by decide)) (by rfl) mE kE bE .nil pass0 (pa_cons (pv 8) pa_nil)) (pe_tup (pa_cons pe_int pa_nil)) (nomark _)) (pe_and (pe_cmpR (op_eqD hr.units) (pe_call GE (hr.mono (by decide)) (by rfl) mE kE bE .nil pass0 (pa_cons (pv 9) pa_nil)) (pe_tup (pa_cons pe_int pa_nil)) (nomark _))
      (pe_one (pe_cmpR (op_eqD hr.units) (pe_call GT (hr.mono (by decide)) (by rfl) mT kT bT .nil pass0 (pa_cons (pv 9) (pa_cons (pe_tup (pa_cons pe_int (pa_cons pe_int pa_nil))) pa_nil))) (pe_tup (pa_cons pe_str (pa_cons (pe_tup pa_nil) (pa_cons (pe_tup (pa_cons pe_int (pa_cons pe_int pa_nil))) (pa_cons pe_int pa_nil))))) (nomark _)))))))))))))))))), ?_⟩
  have main : ∀ (E' : XK) (t : TS), (∀ c, WC K (Mc c) (Cup c) t (fun _ _ => False) (fun _ d => d = .bl true) () ((startT nLaw [.adr a]).set 1 (some (.adr c)))) →
      tSeq (tAsg (tCall (spCup K) [] E' (tCons (tVar 0) tNil)) (gName 1)) t { nx := fun _ H' => Q .non H', rt := Q } (L2.start nLaw [.ref a]) H := fun E' t h => by
    refine ⟨.ref a, rfl, a, ns, rfl, hS, by omega, fun c H1 l1 cup => ?_⟩
    have r0 : Rel K (Mc c) H1 ((L2.start nLaw [.ref a]).set 1 (some (.ref c))) ((startT nLaw [.adr a]).set 1 (some (.adr c))) := Rel.set (rel_start (cup_tr cup) (RpL.cons (Rp.adr a) RpL.nil)) 1 (Rp.adr c)
    exact h c { nx := fun _ H' => Q .non H', rt := Q } _ H1 r0 cup (fun _ _ _ _ _ _ _ z => z.elim) fun v H' d s' l p j e => by
      subst e
      rw [p.bl_inv]
      exact q H'
  refine main _ _ fun c => ?_
  refine wc_seq (wc_range (n := 4) (by decide) (eac_pure (ea_cons ed_int ea_nil) ⟨rfl, rfl⟩) (I := fun _ _ τ => ∃ x2, τ = [some (.adr a), some (.adr c), x2, none, none, none, none, none, none, none]) ⟨none, rfl⟩ (fun i s1 τ1 hi hI => ?_) fun s1 τ1 hI => ?_)
  · obtain ⟨x2, rfl⟩ := hI
    refine wc_ifC (Pb := fun _ b => b = false) (etc_or (Pa := fun _ b => b = false) (etc_not (etc_B (ec_call (eac_cons (eu_call (P := fun _ d => ∃ R, d = rD R ∧ Ma.VR R) (F := fCalm) (es := []) (ea_cons (ed_var rfl) ea_nil) ⟨rfl, rfl⟩ fun d hd => hd) fun s1 d1 h1 => eac_nil ?_)))) (fun s1 h => nomatch h) fun s1 _ => etc_not (etc_B (ec_call (eac_cons (eu_call (P := fun _ d => ∃ R, d = rD R ∧ Ma.VR R) (F := fCalm) (es := []) (ea_cons (ed_var rfl) ea_nil) ⟨rfl, rfl⟩ fun d hd => hd) fun s1 d1 h1 => eac_nil ?_)))) (fun s1 h => nomatch h) fun s1 _ => wc_next ⟨_, rfl⟩
    · obtain ⟨R, rfl, v⟩ := h1
      exact ⟨_, ⟨R, v, rfl, rfl⟩, fun d hd => ⟨true, hd, rfl⟩⟩
    · obtain ⟨R, rfl, v⟩ := h1
      exact ⟨_, ⟨R, v, rfl, rfl⟩, fun d hd => ⟨true, hd, rfl⟩⟩
  · obtain ⟨x2, rfl⟩ := hI
    refine wc_pure ?_
    refine wd_seq (wd_if (b := false) (et_is (et_or (et_test (ed_op (ed_none (ed_callD ea_nil ⟨rfl, rfl⟩) v_R l_R) ed_non rv_notN)) fun _ => et_or (et_test (ed_op (e := sD [0]) (ed_some (ed_callD ea_nil ⟨rfl, rfl⟩) v_U l_U) (ed_tup (ea_cons ed_int ea_nil) (Nat.le_of_ble_eq_true rfl)) (rv_neSame [0]))) fun _ => et_test (ed_op (ed_none (ed_callD ea_nil ⟨rfl, rfl⟩) v_V l_V) ed_non rv_notN)) rfl) (fun h => nomatch h) fun _ => wd_next ?_)
    refine wd_seq (wd_asgG (ed_tup (ea_cons (ed_tup (ea_cons (ed_tup (ea_cons (ed_tup ea_nil (Nat.le_of_ble_eq_true rfl)) (ea_cons (ed_tup ea_nil (Nat.le_of_ble_eq_true rfl)) (ea_cons ed_int ea_nil))) (Nat.le_of_ble_eq_true rfl)) (ea_cons (ed_tup (ea_cons (ed_tup ea_nil (Nat.le_of_ble_eq_true rfl)) (ea_cons (ed_tup ea_nil (Nat.le_of_ble_eq_true rfl)) (ea_cons ed_int ea_nil))) (Nat.le_of_ble_eq_true rfl)) (ea_cons (ed_tup (ea_cons (ed_tup ea_nil (Nat.le_of_ble_eq_true rfl)) (ea_cons (ed_tup ea_nil (Nat.le_of_ble_eq_true rfl)) (ea_cons ed_int ea_nil))) (Nat.le_of_ble_eq_true rfl)) (ea_cons (ed_tup (ea_cons (ed_tup ea_nil (Nat.le_of_ble_eq_true rfl)) (ea_cons (ed_tup ea_nil (Nat.le_of_ble_eq_true rfl)) (ea_cons (ed_un ed_int ru_neg) ea_nil))) (Nat.le_of_ble_eq_true rfl)) ea_nil)))) (Nat.le_of_ble_eq_true rfl)) (ea_cons (ed_tup (ea_cons (ed_tup (ea_cons (ed_tup ea_nil (Nat.le_of_ble_eq_true rfl)) (ea_cons (ed_tup (ea_cons ed_int ea_nil) (Nat.le_of_ble_eq_true rfl)) (ea_cons ed_int ea_nil))) (Nat.le_of_ble_eq_true rfl)) (ea_cons (ed_tup (ea_cons (ed_tup ea_nil (Nat.le_of_ble_eq_true rfl)) (ea_cons (ed_tup ea_nil (Nat.le_of_ble_eq_true rfl)) (ea_cons ed_int ea_nil))) (Nat.le_of_ble_eq_true rfl)) (ea_cons (ed_tup (ea_cons (ed_tup ea_nil (Nat.le_of_ble_eq_true rfl)) (ea_cons (ed_tup ea_nil (Nat.le_of_ble_eq_true rfl)) (ea_cons ed_int ea_nil))) (Nat.le_of_ble_eq_true rfl)) (ea_cons (ed_tup (ea_cons (ed_tup ea_nil (Nat.le_of_ble_eq_true rfl)) (ea_cons (ed_tup ea_nil (Nat.le_of_ble_eq_true rfl)) (ea_cons ed_int ea_nil))) (Nat.le_of_ble_eq_true rfl)) ea_nil)))) (Nat.le_of_ble_eq_true rfl)) ea_nil)) (Nat.le_of_ble_eq_true rfl)) (gd_tup (gs_cons gd_name (gs_cons gd_name gs_nil)) rfl) ?_)
    refine wd_seq (wd_if (b := false) (et_is (et_test (ed_op (ed_none (R := litRing) (ed_is (ed_tup (ea_cons (ed_var rfl) (ea_cons (ed_var rfl) ea_nil)) (Nat.le_of_ble_eq_true rfl)) rfl) v_ring l_ring) ed_non rv_notN)) rfl) (fun h => nomatch h) fun _ => wd_next ?_)
    refine wd_seq (wd_asg (ed_tup ea_nil (Nat.le_of_ble_eq_true rfl)) ?_)
    refine wd_seq (wd_range (n := 5) (by decide) (ea_cons ed_int ea_nil) (fun i τ => ∃ x3 x4 x6, τ = [some (.adr a), some (.adr c), x2, x3, x4, some (rD (farR i)), x6, none, none, none]) ⟨_, _, none, rfl⟩ (fun i τ hi hI => ?_) fun τ hI => ?_)
    · obtain ⟨x3, x4, x6, rfl⟩ := hI
      refine wd_asg (ed_op (ed_var (d := rD (farR i)) rfl) (ed_tup (ea_cons (ed_tup (ea_cons (ed_tup (ea_cons (ed_tup ea_nil (Nat.le_of_ble_eq_true rfl)) (ea_cons (ed_tup ea_nil (Nat.le_of_ble_eq_true rfl)) (ea_cons ed_int ea_nil))) (Nat.le_of_ble_eq_true rfl)) (ea_cons (ed_tup (ea_cons (ed_tup ea_nil (Nat.le_of_ble_eq_true rfl)) (ea_cons (ed_tup ea_nil (Nat.le_of_ble_eq_true rfl)) (ea_cons ed_int ea_nil))) (Nat.le_of_ble_eq_true rfl)) (ea_cons (ed_tup (ea_cons (ed_tup ea_nil (Nat.le_of_ble_eq_true rfl)) (ea_cons (ed_tup ea_nil (Nat.le_of_ble_eq_true rfl)) (ea_cons (ed_op (ed_var (d := .int (i : Int)) rfl) ed_int rv_add) ea_nil))) (Nat.le_of_ble_eq_true rfl)) (ea_cons (ed_tup (ea_cons (ed_tup ea_nil (Nat.le_of_ble_eq_true rfl)) (ea_cons (ed_tup ea_nil (Nat.le_of_ble_eq_true rfl)) (ea_cons (ed_un ed_int ru_neg) ea_nil))) (Nat.le_of_ble_eq_true rfl)) ea_nil)))) (Nat.le_of_ble_eq_true rfl)) ea_nil) (Nat.le_of_ble_eq_true rfl)) (rv_cat ?_)) ⟨x3, x4, some (.int (i : Int)), ?_⟩
      · have : ((farR i).map pD).length = i := by rw [List.length_map]; unfold farR; rw [List.length_map, List.length_range]
        rw [this]
        show i + 1 ≤ 100000
        omega
      · have e1 : rD (farR (i + 1)) = .tup ((farR i).map pD ++ [pD [([], [], some 0), ([], [], some 0), ([], [], some (i + 1)), ([], [], none)]]) := by
          unfold rD farR
          rw [List.range_succ, List.map_append, List.map_append]
          rfl
        rw [e1]
        rfl
    · obtain ⟨x3, x4, x6, rfl⟩ := hI
      refine wd_seq (wd_asg (ed_tup (ea_cons (ed_tup (ea_cons (ed_tup (ea_cons (ed_tup ea_nil (Nat.le_of_ble_eq_true rfl)) (ea_cons (ed_tup ea_nil (Nat.le_of_ble_eq_true rfl)) (ea_cons ed_int ea_nil))) (Nat.le_of_ble_eq_true rfl)) (ea_cons (ed_tup (ea_cons (ed_tup ea_nil (Nat.le_of_ble_eq_true rfl)) (ea_cons (ed_tup (ea_cons ed_int (ea_cons ed_int ea_nil)) (Nat.le_of_ble_eq_true rfl)) (ea_cons ed_int ea_nil))) (Nat.le_of_ble_eq_true rfl)) (ea_cons (ed_tup (ea_cons (ed_tup ea_nil (Nat.le_of_ble_eq_true rfl)) (ea_cons (ed_tup ea_nil (Nat.le_of_ble_eq_true rfl)) (ea_cons ed_int ea_nil))) (Nat.le_of_ble_eq_true rfl)) (ea_cons (ed_tup (ea_cons (ed_tup ea_nil (Nat.le_of_ble_eq_true rfl)) (ea_cons (ed_tup ea_nil (Nat.le_of_ble_eq_true rfl)) (ea_cons (ed_un ed_int ru_neg) ea_nil))) (Nat.le_of_ble_eq_true rfl)) ea_nil)))) (Nat.le_of_ble_eq_true rfl)) ea_nil) (Nat.le_of_ble_eq_true rfl)) ?_)
      refine wd_seq (wd_if (b := false) (et_test (ed_op (e := sD [2, 2, 2, 2, 2, 1]) (ed_some (R := litLast) (ed_is (ed_op (ed_var (d := rD (farR 5)) rfl) (ed_var rfl) (rv_cat (Nat.le_of_ble_eq_true rfl))) rfl) v_last l_last) (ed_tup (ea_cons ed_int (ea_cons ed_int (ea_cons ed_int (ea_cons ed_int (ea_cons ed_int (ea_cons ed_int ea_nil)))))) (Nat.le_of_ble_eq_true rfl)) (rv_neSame _))) (fun h => nomatch h) fun _ => wd_next ?_)
      refine wd_seq (wd_if (b := false) (et_test (ed_op (e := sD [2, 2, 2, 2, 2]) (ed_some (R := litEnd) (ed_is (ed_op (ed_var (d := rD (farR 5)) rfl) (ed_tup (ea_cons (ed_tup (ea_cons (ed_tup (ea_cons (ed_tup ea_nil (Nat.le_of_ble_eq_true rfl)) (ea_cons (ed_tup ea_nil (Nat.le_of_ble_eq_true rfl)) (ea_cons ed_int ea_nil))) (Nat.le_of_ble_eq_true rfl)) (ea_cons (ed_tup (ea_cons (ed_tup ea_nil (Nat.le_of_ble_eq_true rfl)) (ea_cons (ed_tup ea_nil (Nat.le_of_ble_eq_true rfl)) (ea_cons ed_int ea_nil))) (Nat.le_of_ble_eq_true rfl)) (ea_cons (ed_tup (ea_cons (ed_tup ea_nil (Nat.le_of_ble_eq_true rfl)) (ea_cons (ed_tup ea_nil (Nat.le_of_ble_eq_true rfl)) (ea_cons ed_int ea_nil))) (Nat.le_of_ble_eq_true rfl)) (ea_cons (ed_tup (ea_cons (ed_tup ea_nil (Nat.le_of_ble_eq_true rfl)) (ea_cons (ed_tup ea_nil (Nat.le_of_ble_eq_true rfl)) (ea_cons ed_int ea_nil))) (Nat.le_of_ble_eq_true rfl)) ea_nil)))) (Nat.le_of_ble_eq_true rfl)) ea_nil) (Nat.le_of_ble_eq_true rfl)) (rv_cat (Nat.le_of_ble_eq_true rfl))) rfl) v_end l_end) (ed_is (ed_op (ed_tup (ea_cons ed_int ea_nil) (Nat.le_of_ble_eq_true rfl)) ed_int (rv_rep (by decide) (by decide) (by intro z; cases z) (by decide))) rfl) (rv_neSame _))) (fun h => nomatch h) fun _ => wd_next ?_)
      refine wd_seq (wd_asg (ed_tup (ea_cons (ed_tup (ea_cons (ed_tup (ea_cons (ed_tup ea_nil (Nat.le_of_ble_eq_true rfl)) (ea_cons (ed_tup ea_nil (Nat.le_of_ble_eq_true rfl)) (ea_cons ed_int ea_nil))) (Nat.le_of_ble_eq_true rfl)) (ea_cons (ed_tup (ea_cons (ed_tup ea_nil (Nat.le_of_ble_eq_true rfl)) (ea_cons (ed_tup ea_nil (Nat.le_of_ble_eq_true rfl)) (ea_cons ed_int ea_nil))) (Nat.le_of_ble_eq_true rfl)) (ea_cons (ed_tup (ea_cons (ed_tup ea_nil (Nat.le_of_ble_eq_true rfl)) (ea_cons (ed_tup ea_nil (Nat.le_of_ble_eq_true rfl)) (ea_cons ed_int ea_nil))) (Nat.le_of_ble_eq_true rfl)) (ea_cons (ed_tup (ea_cons (ed_tup ea_nil (Nat.le_of_ble_eq_true rfl)) (ea_cons (ed_tup ea_nil (Nat.le_of_ble_eq_true rfl)) (ea_cons (ed_un ed_int ru_neg) ea_nil))) (Nat.le_of_ble_eq_true rfl)) ea_nil)))) (Nat.le_of_ble_eq_true rfl)) (ea_cons (ed_tup (ea_cons (ed_tup (ea_cons (ed_tup ea_nil (Nat.le_of_ble_eq_true rfl)) (ea_cons (ed_tup ea_nil (Nat.le_of_ble_eq_true rfl)) (ea_cons ed_int ea_nil))) (Nat.le_of_ble_eq_true rfl)) (ea_cons (ed_tup (ea_cons (ed_tup ea_nil (Nat.le_of_ble_eq_true rfl)) (ea_cons (ed_tup ea_nil (Nat.le_of_ble_eq_true rfl)) (ea_cons ed_int ea_nil))) (Nat.le_of_ble_eq_true rfl)) (ea_cons (ed_tup (ea_cons (ed_tup ea_nil (Nat.le_of_ble_eq_true rfl)) (ea_cons (ed_tup ea_nil (Nat.le_of_ble_eq_true rfl)) (ea_cons ed_int ea_nil))) (Nat.le_of_ble_eq_true rfl)) (ea_cons (ed_tup (ea_cons (ed_tup ea_nil (Nat.le_of_ble_eq_true rfl)) (ea_cons (ed_tup (ea_cons ed_int ea_nil) (Nat.le_of_ble_eq_true rfl)) (ea_cons ed_int ea_nil))) (Nat.le_of_ble_eq_true rfl)) ea_nil)))) (Nat.le_of_ble_eq_true rfl)) ea_nil)) (Nat.le_of_ble_eq_true rfl)) ?_)
      refine wd_seq (wd_asg (ed_tup (ea_cons (ed_tup (ea_cons (ed_tup (ea_cons (ed_tup ea_nil (Nat.le_of_ble_eq_true rfl)) (ea_cons (ed_tup ea_nil (Nat.le_of_ble_eq_true rfl)) (ea_cons (ed_un ed_int ru_neg) ea_nil))) (Nat.le_of_ble_eq_true rfl)) (ea_cons (ed_tup (ea_cons (ed_tup ea_nil (Nat.le_of_ble_eq_true rfl)) (ea_cons (ed_tup (ea_cons ed_int (ea_cons ed_int ea_nil)) (Nat.le_of_ble_eq_true rfl)) (ea_cons ed_int ea_nil))) (Nat.le_of_ble_eq_true rfl)) (ea_cons (ed_tup (ea_cons (ed_tup ea_nil (Nat.le_of_ble_eq_true rfl)) (ea_cons (ed_tup (ea_cons ed_int ea_nil) (Nat.le_of_ble_eq_true rfl)) (ea_cons ed_int ea_nil))) (Nat.le_of_ble_eq_true rfl)) (ea_cons (ed_tup (ea_cons (ed_tup ea_nil (Nat.le_of_ble_eq_true rfl)) (ea_cons (ed_tup (ea_cons ed_int ea_nil) (Nat.le_of_ble_eq_true rfl)) (ea_cons ed_int ea_nil))) (Nat.le_of_ble_eq_true rfl)) ea_nil)))) (Nat.le_of_ble_eq_true rfl)) ea_nil) (Nat.le_of_ble_eq_true rfl)) ?_)
      refine wd_ret (ed_andV (a := true) (ed_op (e := sD [1]) (ed_some (R := litFoot) (ed_var rfl) v_foot l_foot) (ed_tup (ea_cons ed_int ea_nil) (Nat.le_of_ble_eq_true rfl)) (rv_eqSame _)) fun _ => ed_andV (a := true) (b := true) (ed_op (e := sD [2]) (ed_some (R := litHides) (ed_var rfl) v_hides l_hides) (ed_tup (ea_cons ed_int ea_nil) (Nat.le_of_ble_eq_true rfl)) (rv_eqSame _)) fun _ =>
        ed_op (d := runD (some ([], [2, 2], 2))) (e := runD (some ([], [2, 2], 2))) (ed_is (ed_callD (d := runD (Ma.toldOn (Ma.sem litHides) [1, 2])) (ea_cons (ed_var (d := rD litHides) rfl) (ea_cons (ed_tup (ea_cons ed_int (ea_cons ed_int ea_nil)) (Nat.le_of_ble_eq_true rfl)) ea_nil)) ⟨litHides, [1, 2], v_hides, by decide, by decide, (fun r hr => by rw [t_hides] at hr; cases hr; exact Nat.zero_le _), rfl, rfl⟩) (by rw [t_hides])) (ed_tup (ea_cons ed_str (ea_cons (ed_tup ea_nil (Nat.le_of_ble_eq_true rfl)) (ea_cons (ed_tup (ea_cons ed_int (ea_cons ed_int ea_nil)) (Nat.le_of_ble_eq_true rfl)) (ea_cons ed_int ea_nil)))) (Nat.le_of_ble_eq_true rfl)) (rv_eqRun _ (by decide +kernel))) rfl
end
end Sp
namespace Sp
open PySem PySem.Spec PyProof.Rows L2 PD PDX
section
variable {P : Program} {w : World} {K : PySem.W.Frag} {mg : Str → Option Value} {base : Heap}
def BD (x : Str) (i : Nat) (ps : List Str) : Prop := ∀ (kV doc pm : Value) (an : Option Addr) (cdv ct : Value) (us : List Value), us.length = ps.length → bindArgs (PySem.W.fnOf x x (defArgs (topS i)) (defBody (topS i)) (defScope (topS i)) .none kV doc pm an cdv ct) ⟨us, []⟩ = pure (ps.zip us)
theorem at_mk {h : Heap} (X : K.In h) (G : h.Ns mainGlobals mg) {x : Str} {i : Nat} {ps : List Str} (B : BD x i ps) {f : Addr} {od an : Option Addr} {sl : Array (Option Value)} {oc kV dc pm cd ct : Value}
    (a : PySem.W.nsIn K mainGlobals x = some (some (.ref f))) (l : K.lookup f = some ⟨oc, od, .func (PySem.W.fnOf x x (defArgs (topS i)) (defBody (topS i)) (defScope (topS i)) .none kV dc pm an cd ct), sl⟩) (c : PySem.W.codeIn K cd x = true) (k : PySem.W.keepIn K (.ref f) = true) : At K mg x i ps :=
  ⟨f, _, fun_mk l c k, PySem.W.mg_of X G a, (fun_mk l c k).binds B⟩
theorem bd15 : BD "is_whole" 15 ["value", "low", "high"] := fun _ _ _ _ _ _ us hl => match us, hl with | [_, _, _], _ => rfl
theorem bd16 : BD "fits_sorts" 16 ["value", "most"] := fun _ _ _ _ _ _ us hl => match us, hl with | [_, _], _ => rfl
theorem bd17 : BD "fits_move" 17 ["value", "posts"] := fun _ _ _ _ _ _ us hl => match us, hl with | [_, _], _ => rfl
theorem bd18 : BD "fits_routine" 18 ["value"] := fun _ _ _ _ _ _ us hl => match us, hl with | [_], _ => rfl
theorem bd19 : BD "need_routine" 19 ["value"] := fun _ _ _ _ _ _ us hl => match us, hl with | [_], _ => rfl
theorem bd20 : BD "need_stack" 20 ["value"] := fun _ _ _ _ _ _ us hl => match us, hl with | [_], _ => rfl
theorem bd21 : BD "next_need" 21 ["routine", "pair", "ends"] := fun _ _ _ _ _ _ us hl => match us, hl with | [_, _, _], _ => rfl
theorem bd22 : BD "with_ends" 22 ["routine", "pair", "ends"] := fun _ _ _ _ _ _ us hl => match us, hl with | [_, _, _], _ => rfl
theorem bd23 : BD "told_run" 23 ["routine", "stack"] := fun _ _ _ _ _ _ us hl => match us, hl with | [_, _], _ => rfl
theorem bd24 : BD "need_few" 24 ["marks"] := fun _ _ _ _ _ _ us hl => match us, hl with | [_], _ => rfl
theorem bd25 : BD "led_posts" 25 ["routine"] := fun _ _ _ _ _ _ us hl => match us, hl with | [_], _ => rfl
theorem bd26 : BD "least_endless" 26 ["routine"] := fun _ _ _ _ _ _ us hl => match us, hl with | [_], _ => rfl
theorem bd27 : BD "told_on" 27 ["routine", "stack"] := fun _ _ _ _ _ _ us hl => match us, hl with | [_, _], _ => rfl
theorem bd29 : BD "endless_stack" 29 ["routine"] := fun _ _ _ _ _ _ us hl => match us, hl with | [_], _ => rfl
theorem bd31 : BD "_law_cup" 31 ["_law_script"] := fun _ _ _ _ _ _ us hl => match us, hl with | [_], _ => rfl
theorem bd32 : BD "_law_roll" 32 ["_law_cup_here", "_law_many"] := fun _ _ _ _ _ _ us hl => match us, hl with | [_, _], _ => rfl
theorem bd33 : BD "_law_some" 33 ["_law_cup_here", "_law_things"] := fun _ _ _ _ _ _ us hl => match us, hl with | [_, _], _ => rfl
theorem bd34 : BD "_law_sorts" 34 ["_law_cup_here", "_law_many", "_law_below"] := fun _ _ _ _ _ _ us hl => match us, hl with | [_, _, _], _ => rfl
theorem bd35 : BD "_law_calm" 35 ["_law_cup_here"] := fun _ _ _ _ _ _ us hl => match us, hl with | [_], _ => rfl
theorem bd36 : BD "_law_wild" 36 ["_law_cup_here"] := fun _ _ _ _ _ _ us hl => match us, hl with | [_], _ => rfl
theorem bd37 : BD "_law_pair" 37 ["_law_routine", "_law_pair_here", "_law_told_here"] := fun _ _ _ _ _ _ us hl => match us, hl with | [_, _, _], _ => rfl
theorem bd38 : BD "_law_table" 38 ["_law_routine"] := fun _ _ _ _ _ _ us hl => match us, hl with | [_], _ => rfl
theorem bd39 : BD "_law_told" 39 ["_law_told_here", "_law_stack"] := fun _ _ _ _ _ _ us hl => match us, hl with | [_, _], _ => rfl
theorem bd40 : BD "_law_led" 40 ["_law_told_here"] := fun _ _ _ _ _ _ us hl => match us, hl with | [_], _ => rfl
theorem bd41 : BD "_law_rests" 41 ["_law_told_here"] := fun _ _ _ _ _ _ us hl => match us, hl with | [_], _ => rfl
theorem bd42 : BD "_law_stacks" 42 ["_law_longest"] := fun _ _ _ _ _ _ us hl => match us, hl with | [_], _ => rfl
theorem bd43 : BD "_law_r" 43 [] := fun _ _ _ _ _ _ us hl => match us, hl with | [], _ => rfl
theorem bd44 : BD "_law_u" 44 [] := fun _ _ _ _ _ _ us hl => match us, hl with | [], _ => rfl
theorem bd45 : BD "_law_v" 45 [] := fun _ _ _ _ _ _ us hl => match us, hl with | [], _ => rfl
theorem bd46 : BD "_law_right" 46 ["_law_routine"] := fun _ _ _ _ _ _ us hl => match us, hl with | [_], _ => rfl
theorem all_ok (T : Tx K mg) (a15 : At K mg "is_whole" 15 ["value", "low", "high"]) (a16 : At K mg "fits_sorts" 16 ["value", "most"]) (a17 : At K mg "fits_move" 17 ["value", "posts"]) (a18 : At K mg "fits_routine" 18 ["value"]) (a19 : At K mg "need_routine" 19 ["value"]) (a20 : At K mg "need_stack" 20 ["value"]) (a21 : At K mg "next_need" 21 ["routine", "pair", "ends"]) (a22 : At K mg "with_ends" 22 ["routine", "pair", "ends"]) (a23 : At K mg "told_run" 23 ["routine", "stack"]) (a24 : At K mg "need_few" 24 ["marks"]) (a25 : At K mg "led_posts" 25 ["routine"]) (a26 : At K mg "least_endless" 26 ["routine"]) (a27 : At K mg "told_on" 27 ["routine", "stack"]) (a29 : At K mg "endless_stack" 29 ["routine"]) (a31 : At K mg "_law_cup" 31 ["_law_script"]) (a32 : At K mg "_law_roll" 32 ["_law_cup_here", "_law_many"]) (a33 : At K mg "_law_some" 33 ["_law_cup_here", "_law_things"]) (a34 : At K mg "_law_sorts" 34 ["_law_cup_here", "_law_many", "_law_below"]) (a35 : At K mg "_law_calm" 35 ["_law_cup_here"]) (a36 : At K mg "_law_wild" 36 ["_law_cup_here"]) (a37 : At K mg "_law_pair" 37 ["_law_routine", "_law_pair_here", "_law_told_here"]) (a38 : At K mg "_law_table" 38 ["_law_routine"]) (a39 : At K mg "_law_told" 39 ["_law_told_here", "_law_stack"]) (a40 : At K mg "_law_led" 40 ["_law_told_here"]) (a41 : At K mg "_law_rests" 41 ["_law_told_here"]) (a42 : At K mg "_law_stacks" 42 ["_law_longest"]) (a43 : At K mg "_law_r" 43 []) (a44 : At K mg "_law_u" 44 []) (a45 : At K mg "_law_v" 45 []) (a46 : At K mg "_law_right" 46 ["_law_routine"]) {f : Addr} {fd : FuncData} (U : Fun K "law" "law" (topS 47) f fd) : FnOk P w K mg base CX0 8 f fd ["_law_script"] (spLaw K) := by
  have c15 := ok_isWhole (P := P) (w := w) (base := base) T a15
  have c16 := ok_fitsSorts T a16 c15
  have c17 := ok_fitsMove T a17 c15 c16
  have c18 := ok_fitsRoutine T a18 c17
  have c19 := ok_needRoutine a19 c18
  have c20 := ok_needStack T a20 c16
  have c21 := ok_next (P := P) (w := w) (base := base) T a21
  have c22 := ok_with T a22 c21
  have c23 := ok_toldRun T a23 c22
  have c24 := ok_few (P := P) (w := w) (base := base) T a24
  have c25 := ok_led T a25 c22
  have c26 := ok_least T a26 c25
  have c27 := ok_toldOn a27 c19 c20 c23 c24
  have c29 := ok_endless a29 c19 c26
  have c31 := ok_cup (P := P) (w := w) (base := base) T a31
  have c32 := ok_roll (P := P) (w := w) (base := base) T a32
  have c33 := ok_some T a33 c32
  have c34 := ok_sorts T a34 c32
  have c35 := ok_calm T a35 c32 c33 c34
  have c36 := ok_wild T a36 c32 c33 c34 c35
  have c37 := ok_pair (P := P) (w := w) (base := base) T a37
  have c38 := ok_table T a38 c37
  have c39 := ok_lawTold (P := P) (w := w) (base := base) T a39
  have c40 := ok_lawLed (P := P) (w := w) (base := base) T a40
  have c41 := ok_rests T a41 c40
  have c42 := ok_stacks (P := P) (w := w) (base := base) T a42
  have c43 := ok_r (P := P) (w := w) (base := base) a43
  have c44 := ok_u (P := P) (w := w) (base := base) a44
  have c45 := ok_v (P := P) (w := w) (base := base) a45
  have c46 := ok_right T a46 c38 c29 c41 c39 c27 c42
  exact ok_law T U c31 c46 c36 c35 c29 c27 c43 c44 c45
theorem tx_mk {h : Heap} (X : K.In h) (G : h.Ns mainGlobals mg) (z0 : PySem.W.nsIn K mainGlobals "isinstance" = some none) (z1 : PySem.W.nsIn K mainGlobals "int" = some none) (z2 : PySem.W.nsIn K mainGlobals "bool" = some none) (z3 : PySem.W.nsIn K mainGlobals "tuple" = some none) (z4 : PySem.W.nsIn K mainGlobals "len" = some none) (z5 : PySem.W.nsIn K mainGlobals "all" = some none) (z6 : PySem.W.nsIn K mainGlobals "enumerate" = some none) (z7 : PySem.W.nsIn K mainGlobals "dict" = some none) (z8 : PySem.W.nsIn K mainGlobals "range" = some none) (z9 : PySem.W.nsIn K mainGlobals "sorted" = some none) (z10 : PySem.W.nsIn K mainGlobals "abs" = some none) (z11 : PySem.W.nsIn K mainGlobals "list" = some none) (z12 : PySem.W.nsIn K mainGlobals "min" = some none) {t0 : Nat} (n0 : PySem.W.nsIn K mainGlobals "POSTS" = some (some (.int 6 t0))) {t1 : Nat} (n1 : PySem.W.nsIn K mainGlobals "SORTS" = some (some (.int 3 t1))) {t2 : Nat} (n2 : PySem.W.nsIn K mainGlobals "MARKS" = some (some (.int 2 t2))) {t3 : Nat} (n3 : PySem.W.nsIn K mainGlobals "BACK" = some (some (.int 3 t3))) {t4 : Nat} (n4 : PySem.W.nsIn K mainGlobals "STACK" = some (some (.int 60 t4))) {t5 : Nat} (n5 : PySem.W.nsIn K mainGlobals "GREATEST" = some (some (.int 1000 t5))) {t6 : Nat} (n6 : PySem.W.nsIn K mainGlobals "REST" = some (some (.int (-1) t6))) {t7 : Nat} (n7 : PySem.W.nsIn K mainGlobals "NEVER" = some (some (.str "never" t7))) {aF e1 e2 : Addr} {ocF oc1 oc2 : Option Addr} {u1 u2 : Nat} {m0 m1 m2 : Nat} {sF s1 s2 : Array (Option Value)}
    (nF : PySem.W.nsIn K mainGlobals "FOREVER" = some (some (.ref aF))) (lF : K.lookup aF = some ⟨.type "tuple", ocF, .seq #[.str "never" u1, .int 0 u2, .ref e1, .ref e2] m0, sF⟩) (l1 : K.lookup e1 = some ⟨.type "tuple", oc1, .seq #[] m1, s1⟩) (l2 : K.lookup e2 = some ⟨.type "tuple", oc2, .seq #[] m2, s2⟩) : Tx K mg where
  isi := PySem.W.mg_none_of X G z0
  int := PySem.W.mg_none_of X G z1
  bool := PySem.W.mg_none_of X G z2
  tuple := PySem.W.mg_none_of X G z3
  len := PySem.W.mg_none_of X G z4
  all := PySem.W.mg_none_of X G z5
  enum := PySem.W.mg_none_of X G z6
  dict := PySem.W.mg_none_of X G z7
  range := PySem.W.mg_none_of X G z8
  sorted := PySem.W.mg_none_of X G z9
  abs := PySem.W.mg_none_of X G z10
  list := PySem.W.mg_none_of X G z11
  min := PySem.W.mg_none_of X G z12
  POSTS := ⟨_, PySem.W.mg_of X G n0⟩
  SORTS := ⟨_, PySem.W.mg_of X G n1⟩
  MARKS := ⟨_, PySem.W.mg_of X G n2⟩
  BACK := ⟨_, PySem.W.mg_of X G n3⟩
  STACK := ⟨_, PySem.W.mg_of X G n4⟩
  GREATEST := ⟨_, PySem.W.mg_of X G n5⟩
  REST := ⟨_, PySem.W.mg_of X G n6⟩
  NEVER := ⟨_, PySem.W.mg_of X G n7⟩
  FOREVER := by
    have d1 : ∀ {e : Addr} {oc : Option Addr} {m : Nat} {s : Array (Option Value)}, K.lookup e = some ⟨.type "tuple", oc, .seq #[] m, s⟩ → Dp K (fun _ => none) (.ref e) (.tuple []) := fun l => .tup (.inr ⟨_, #[], _, l, rfl, rfl, Nat.zero_le _, .nil⟩) .nil
    refine ⟨aF, PySem.W.mg_of X G nF, .tup (xs := [.str "never", .int 0, .ref e1, .ref e2]) (.inr ⟨_, _, _, lF, rfl, rfl, (show 4 ≤ sizeLine by decide), ?_⟩) (.cons (.str _) (.cons (.int _) (.cons (d1 l1) (.cons (d1 l2) .nil))))⟩
    exact .cons ⟨_, rfl⟩ (.cons ⟨_, rfl⟩ (.cons rfl (.cons rfl .nil)))
theorem all_mk {l : PySem.W.OpenLaw} {w : World} {K : PySem.W.Frag} {h : Heap} {mg : Str → Option Value} {fa : Addr} (X : K.In h) (G : h.Ns mainGlobals mg) (hfa : mg "law" = some (.ref fa)) (T : Tx K mg)
    (A15 : At K mg "is_whole" 15 ["value", "low", "high"])
    (A16 : At K mg "fits_sorts" 16 ["value", "most"])
    (A17 : At K mg "fits_move" 17 ["value", "posts"])
    (A18 : At K mg "fits_routine" 18 ["value"])
    (A19 : At K mg "need_routine" 19 ["value"])
    (A20 : At K mg "need_stack" 20 ["value"])
    (A21 : At K mg "next_need" 21 ["routine", "pair", "ends"])
    (A22 : At K mg "with_ends" 22 ["routine", "pair", "ends"])
    (A23 : At K mg "told_run" 23 ["routine", "stack"])
    (A24 : At K mg "need_few" 24 ["marks"])
    (A25 : At K mg "led_posts" 25 ["routine"])
    (A26 : At K mg "least_endless" 26 ["routine"])
    (A27 : At K mg "told_on" 27 ["routine", "stack"])
    (A29 : At K mg "endless_stack" 29 ["routine"])
    (A31 : At K mg "_law_cup" 31 ["_law_script"])
    (A32 : At K mg "_law_roll" 32 ["_law_cup_here", "_law_many"])
    (A33 : At K mg "_law_some" 33 ["_law_cup_here", "_law_things"])
    (A34 : At K mg "_law_sorts" 34 ["_law_cup_here", "_law_many", "_law_below"])
    (A35 : At K mg "_law_calm" 35 ["_law_cup_here"])
    (A36 : At K mg "_law_wild" 36 ["_law_cup_here"])
    (A37 : At K mg "_law_pair" 37 ["_law_routine", "_law_pair_here", "_law_told_here"])
    (A38 : At K mg "_law_table" 38 ["_law_routine"])
    (A39 : At K mg "_law_told" 39 ["_law_told_here", "_law_stack"])
    (A40 : At K mg "_law_led" 40 ["_law_told_here"])
    (A41 : At K mg "_law_rests" 41 ["_law_told_here"])
    (A42 : At K mg "_law_stacks" 42 ["_law_longest"])
    (A43 : At K mg "_law_r" 43 [])
    (A44 : At K mg "_law_u" 44 [])
    (A45 : At K mg "_law_v" 45 [])
    (A46 : At K mg "_law_right" 46 ["_law_routine"])
    {f : Addr} {od an : Option Addr} {sl : Array (Option Value)} {oc kV dc pm cd ct : Value}
    (a : PySem.W.nsIn K mainGlobals "law" = some (some (.ref f))) (lk : K.lookup f = some ⟨oc, od, .func (PySem.W.fnOf "law" "law" (defArgs (topS 47)) (defBody (topS 47)) (defScope (topS 47)) .none kV dc pm an cd ct), sl⟩) (c : PySem.W.codeIn K cd "law" = true) (k : PySem.W.keepIn K (.ref f) = true) :
    ∃ fd : FuncData, (∀ (s : Shared) (v : Value), BindsTo s fd ⟨[v], []⟩ [("_law_script", v)]) ∧ ∀ base : Heap, K.In base → base.Ns mainGlobals mg → FnOk l.prog w K mg base CX0 8 fa fd ["_law_script"] (spLaw K) := by
  have e := hfa.symm.trans (PySem.W.mg_of X G a)
  cases e
  exact ⟨_, fun s v => .of_eq rfl, fun base _ _ => all_ok T A15 A16 A17 A18 A19 A20 A21 A22 A23 A24 A25 A26 A27 A29 A31 A32 A33 A34 A35 A36 A37 A38 A39 A40 A41 A42 A43 A44 A45 A46 (fun_mk lk c k)⟩
end
end Sp
open PySem PySem.W PyProof.Rows
set_option maxHeartbeats 0 in
theorem PySem.Challenge.cw_settlepages_k46_whole_least_endless_stac_holds : PySem.Challenge.rw_settlepages_k46_whole_least_endless_stac.Holds := by
  w_on; o_law; k_head; (case hw => w_witness2)
  k_fill
  refine L2.walk_of (l := PySem.Challenge.rw_settlepages_k46_whole_least_endless_stac) (n := 63) (k := 8) (x := "_law_script") (CX := fun _ => L2.CX0) (sp := fun w => Sp.spLaw _) rfl (by decide) rfl ⟨rfl, by decide, by decide⟩ (fun w h Y => PySem.W.kIn_of Y) ?F (fun _ _ a ns hl _ hS => ⟨a, ns, rfl, hS, hl, fun _ => rfl⟩) (fun _ _ _ _ _ h => h)
  case F =>
    intro w mg fa h KX G hmg
    refine' Sp.all_mk KX G hmg (Sp.tx_mk KX G ?z0 ?z1 ?z2 ?z3 ?z4 ?z5 ?z6 ?z7 ?z8 ?z9 ?z10 ?z11 ?z12 ?n0 ?n1 ?n2 ?n3 ?n4 ?n5 ?n6 ?n7 ?nF ?lF ?l1 ?l2) (Sp.at_mk KX G Sp.bd15 ?a15 ?b15 ?c15 ?d15) (Sp.at_mk KX G Sp.bd16 ?a16 ?b16 ?c16 ?d16) (Sp.at_mk KX G Sp.bd17 ?a17 ?b17 ?c17 ?d17) (Sp.at_mk KX G Sp.bd18 ?a18 ?b18 ?c18 ?d18) (Sp.at_mk KX G Sp.bd19 ?a19 ?b19 ?c19 ?d19) (Sp.at_mk KX G Sp.bd20 ?a20 ?b20 ?c20 ?d20) (Sp.at_mk KX G Sp.bd21 ?a21 ?b21 ?c21 ?d21) (Sp.at_mk KX G Sp.bd22 ?a22 ?b22 ?c22 ?d22) (Sp.at_mk KX G Sp.bd23 ?a23 ?b23 ?c23 ?d23) (Sp.at_mk KX G Sp.bd24 ?a24 ?b24 ?c24 ?d24) (Sp.at_mk KX G Sp.bd25 ?a25 ?b25 ?c25 ?d25) (Sp.at_mk KX G Sp.bd26 ?a26 ?b26 ?c26 ?d26) (Sp.at_mk KX G Sp.bd27 ?a27 ?b27 ?c27 ?d27) (Sp.at_mk KX G Sp.bd29 ?a29 ?b29 ?c29 ?d29) (Sp.at_mk KX G Sp.bd31 ?a31 ?b31 ?c31 ?d31) (Sp.at_mk KX G Sp.bd32 ?a32 ?b32 ?c32 ?d32) (Sp.at_mk KX G Sp.bd33 ?a33 ?b33 ?c33 ?d33) (Sp.at_mk KX G Sp.bd34 ?a34 ?b34 ?c34 ?d34) (Sp.at_mk KX G Sp.bd35 ?a35 ?b35 ?c35 ?d35) (Sp.at_mk KX G Sp.bd36 ?a36 ?b36 ?c36 ?d36) (Sp.at_mk KX G Sp.bd37 ?a37 ?b37 ?c37 ?d37) (Sp.at_mk KX G Sp.bd38 ?a38 ?b38 ?c38 ?d38) (Sp.at_mk KX G Sp.bd39 ?a39 ?b39 ?c39 ?d39) (Sp.at_mk KX G Sp.bd40 ?a40 ?b40 ?c40 ?d40) (Sp.at_mk KX G Sp.bd41 ?a41 ?b41 ?c41 ?d41) (Sp.at_mk KX G Sp.bd42 ?a42 ?b42 ?c42 ?d42) (Sp.at_mk KX G Sp.bd43 ?a43 ?b43 ?c43 ?d43) (Sp.at_mk KX G Sp.bd44 ?a44 ?b44 ?c44 ?d44) (Sp.at_mk KX G Sp.bd45 ?a45 ?b45 ?c45 ?d45) (Sp.at_mk KX G Sp.bd46 ?a46 ?b46 ?c46 ?d46) ?aL ?lL ?cL ?kL
    (case z0 => k_is); (case z1 => k_is); (case z2 => k_is); (case z3 => k_is); (case z4 => k_is); (case z5 => k_is); (case z6 => k_is); (case z7 => k_is)
    (case z8 => k_is); (case z9 => k_is); (case z10 => k_is); (case z11 => k_is); (case z12 => k_is); (case n0 => k_is); (case n1 => k_is); (case n2 => k_is)
    (case n3 => k_is); (case n4 => k_is); (case n5 => k_is); (case n6 => k_is); (case n7 => k_is); (case nF => k_is); (case lF => k_is); (case l1 => k_is)
    (case l2 => k_is); (case a15 => k_is); (case b15 => k_is); (case c15 => k_is); (case d15 => k_is); (case a16 => k_is); (case b16 => k_is); (case c16 => k_is)
    (case d16 => k_is); (case a17 => k_is); (case b17 => k_is); (case c17 => k_is); (case d17 => k_is); (case a18 => k_is); (case b18 => k_is); (case c18 => k_is)
    (case d18 => k_is); (case a19 => k_is); (case b19 => k_is); (case c19 => k_is); (case d19 => k_is); (case a20 => k_is); (case b20 => k_is); (case c20 => k_is)
    (case d20 => k_is); (case a21 => k_is); (case b21 => k_is); (case c21 => k_is); (case d21 => k_is); (case a22 => k_is); (case b22 => k_is); (case c22 => k_is)
    (case d22 => k_is); (case a23 => k_is); (case b23 => k_is); (case c23 => k_is); (case d23 => k_is); (case a24 => k_is); (case b24 => k_is); (case c24 => k_is)
    (case d24 => k_is); (case a25 => k_is); (case b25 => k_is); (case c25 => k_is); (case d25 => k_is); (case a26 => k_is); (case b26 => k_is); (case c26 => k_is)
    (case d26 => k_is); (case a27 => k_is); (case b27 => k_is); (case c27 => k_is); (case d27 => k_is); (case a29 => k_is); (case b29 => k_is); (case c29 => k_is)
    (case d29 => k_is); (case a31 => k_is); (case b31 => k_is); (case c31 => k_is); (case d31 => k_is); (case a32 => k_is); (case b32 => k_is); (case c32 => k_is)
    (case d32 => k_is); (case a33 => k_is); (case b33 => k_is); (case c33 => k_is); (case d33 => k_is); (case a34 => k_is); (case b34 => k_is); (case c34 => k_is)
    (case d34 => k_is); (case a35 => k_is); (case b35 => k_is); (case c35 => k_is); (case d35 => k_is); (case a36 => k_is); (case b36 => k_is); (case c36 => k_is)
    (case d36 => k_is); (case a37 => k_is); (case b37 => k_is); (case c37 => k_is); (case d37 => k_is); (case a38 => k_is); (case b38 => k_is); (case c38 => k_is)
    (case d38 => k_is); (case a39 => k_is); (case b39 => k_is); (case c39 => k_is); (case d39 => k_is); (case a40 => k_is); (case b40 => k_is); (case c40 => k_is)
    (case d40 => k_is); (case a41 => k_is); (case b41 => k_is); (case c41 => k_is); (case d41 => k_is); (case a42 => k_is); (case b42 => k_is); (case c42 => k_is)
    (case d42 => k_is); (case a43 => k_is); (case b43 => k_is); (case c43 => k_is); (case d43 => k_is); (case a44 => k_is); (case b44 => k_is); (case c44 => k_is)
    (case d44 => k_is); (case a45 => k_is); (case b45 => k_is); (case c45 => k_is); (case d45 => k_is); (case a46 => k_is); (case b46 => k_is); (case c46 => k_is)
    (case d46 => k_is); (case aL => k_is); (case lL => k_is); (case cL => k_is); (case kL => k_is)
