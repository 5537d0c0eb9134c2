import PyProof.Rows.All
import Wide.All
import OpenK.AllK
import Wide.FinOn
import HandS.ForMost
import HandS.TupAny
import HandS.Wide
import HandS.TupMul
import HandS.Flow
import HandS.Style
import HandS.Exc
import HandS.Defaults
import HandS.More
import HandS.Conv
import HandS.Text
import HandS.RaiseMore
import HandS.Zip
import PyProof.EnumMake
import PyProof.Draws
import HandS.Ends
import PyProof.Ascii
import PyProof.ReprLen
import HandS.IsInst
import HandS.StrMore
import KE.KUnpackStar
import KE.GoesEnumKw
import PySem.Challenge.RW_slotfall_k82_heaps_read
set_option Elab.async false
set_option linter.all false
set_option maxRecDepth 100000
namespace ML
open PySem PySem.Spec L2
open PyProof.Rows hiding St

/-- a value seen as data: tuples and lists that nobody changes are whole; .ref a is an object of its own -/
inductive D where
  | non | bl (b : Bool) | int (i : Int) | str (x : Str) | ref (a : Addr) | ty (n : String) | tup (xs : List D) | lst (xs : List D) | fz (xs : List D)
  deriving Inhabited
/-- an object that may change -/
inductive MO where
  | lst (xs : List D)
  | ins (C : Addr) (fs : List (Str × D))
  | dic (kvs : List (Key × D))
abbrev Gp := Addr → Option MO
def put (G : Gp) (a : Addr) (o : MO) : Gp := fun b => if b = a then some o else G b
def del (G : Gp) (a : Addr) : Gp := fun b => if b = a then none else G b
theorem put_same {G : Gp} {a : Addr} {o : MO} : put G a o a = some o := if_pos rfl
theorem put_ne {G : Gp} {a b : Addr} {o : MO} (h : b ≠ a) : put G a o b = G b := if_neg h
theorem put_put {G : Gp} {a : Addr} {o u : MO} : put (put G a o) a u = put G a u := by
  funext b; unfold put; split <;> rfl

def KT (K : PySem.W.Frag) (p : Addr) (vs : List V) : Prop :=
  ∃ (o : Obj) (its : Array Value) (n : Nat), K.lookup p = some o ∧ o.cls = .type "tuple" ∧ o.data = .seq its n ∧ its.size ≤ sizeLine ∧ Vals vs its.toList
def KL (K : PySem.W.Frag) (p : Addr) (vs : List V) : Prop :=
  ∃ (o : Obj) (its : Array Value) (n : Nat), K.lookup p = some o ∧ o.cls = .type "list" ∧ o.dict = none ∧ o.data = .seq its n ∧ its.size ≤ sizeLine ∧ Vals vs its.toList
def FzAt (K : PySem.W.Frag) (G : Gp) (H : Hp) (p : Addr) (vs : List V) : Prop := (G p = none ∧ Rd H p (.lst vs)) ∨ KL K p vs
def TupAt (K : PySem.W.Frag) (G : Gp) (H : Hp) (p : Addr) (vs : List V) : Prop := (G p = none ∧ H p = some (.tup vs)) ∨ KT K p vs
def LstAt (K : PySem.W.Frag) (G : Gp) (H : Hp) (p : Addr) (vs : List V) : Prop := G p = none ∧ H p = some (.lst vs)
theorem TupAt.sq {K G H p vs} (h : TupAt K G H p vs) : SqT K H p vs := h.elim (fun h => .inl (.inl h.2)) .inr
theorem FzAt.sq {K G H p vs} (h : FzAt K G H p vs) : SqL K H p vs := h.elim (fun h => .inl h.2) .inr
theorem LstAt.sq {K G H p vs} (h : LstAt K G H p vs) : SqL K H p vs := .inl (.inl h.2)

mutual
def Rp (K : PySem.W.Frag) (G : Gp) (H : Hp) : D → V → Prop
  | .non, v => v = .non
  | .bl b, v => v = .bl b
  | .int i, v => v = .int i
  | .str x, v => v = .str x
  | .ref a, v => v = .ref a
  | .ty n, v => v = .ty n
  | .tup ws, v => ∃ p vs, v = .ref p ∧ TupAt K G H p vs ∧ RpL K G H ws vs
  | .lst ws, v => ∃ p vs, v = .ref p ∧ LstAt K G H p vs ∧ RpL K G H ws vs
  | .fz ws, v => ∃ p vs, v = .ref p ∧ FzAt K G H p vs ∧ RpL K G H ws vs
def RpL (K : PySem.W.Frag) (G : Gp) (H : Hp) : List D → List V → Prop
  | [], vs => vs = []
  | w :: ws, vs => ∃ v r, vs = v :: r ∧ Rp K G H w v ∧ RpL K G H ws r
end

/-- what nobody changes stays -/
def Kp (G : Gp) (H : Hp) (G' : Gp) (H' : Hp) : Prop := ∀ a o, G a = none → H a = some o → G' a = none ∧ H' a = some o
theorem Kp.refl (G : Gp) (H : Hp) : Kp G H G H := fun _ _ g h => ⟨g, h⟩
theorem Kp.trans {G H G1 H1 G2 H2} (a : Kp G H G1 H1) (b : Kp G1 H1 G2 H2) : Kp G H G2 H2 := fun c o g h => let ⟨g1, h1⟩ := a c o g h; b c o g1 h1
theorem Kp.rd {G H G' H'} (k : Kp G H G' H') {p : Addr} {u : HO} (g : G p = none) (r : Rd H p u) : G' p = none ∧ Rd H' p u := by
  rcases r with r | ⟨o, r⟩
  · obtain ⟨a, b⟩ := k _ _ g r; exact ⟨a, .inl b⟩
  · obtain ⟨a, b⟩ := k _ _ g r; exact ⟨a, .inr ⟨o, b⟩⟩
section
variable {K : PySem.W.Frag} {G G' : Gp} {H H' : Hp}
theorem TupAt.keep (k : Kp G H G' H') {p vs} : TupAt K G H p vs → TupAt K G' H' p vs
  | .inl ⟨g, r⟩ => .inl (k _ _ g r)
  | .inr h => .inr h
theorem FzAt.keep (k : Kp G H G' H') {p vs} : FzAt K G H p vs → FzAt K G' H' p vs
  | .inl ⟨g, r⟩ => .inl (k.rd g r)
  | .inr h => .inr h
theorem LstAt.keep (k : Kp G H G' H') {p vs} : LstAt K G H p vs → LstAt K G' H' p vs := fun ⟨g, r⟩ => k _ _ g r
mutual
theorem Rp.keep (k : Kp G H G' H') : ∀ (w : D) (v : V), Rp K G H w v → Rp K G' H' w v
  | .non, _, h => h
  | .bl _, _, h => h
  | .int _, _, h => h
  | .str _, _, h => h
  | .ref _, _, h => h
  | .ty _, _, h => h
  | .tup ws, _, ⟨p, vs, e, t, r⟩ => ⟨p, vs, e, t.keep k, RpL.keep k ws vs r⟩
  | .lst ws, _, ⟨p, vs, e, t, r⟩ => ⟨p, vs, e, t.keep k, RpL.keep k ws vs r⟩
  | .fz ws, _, ⟨p, vs, e, t, r⟩ => ⟨p, vs, e, t.keep k, RpL.keep k ws vs r⟩
theorem RpL.keep (k : Kp G H G' H') : ∀ (ws : List D) (vs : List V), RpL K G H ws vs → RpL K G' H' ws vs
  | [], _, h => h
  | w :: ws, _, ⟨v, r, e, h, t⟩ => ⟨v, r, e, Rp.keep k w v h, RpL.keep k ws r t⟩
end
theorem Rp.kp {w v} (h : Rp K G H w v) (k : Kp G H G' H') : Rp K G' H' w v := Rp.keep k w v h
theorem RpL.kp {ws vs} (h : RpL K G H ws vs) (k : Kp G H G' H') : RpL K G' H' ws vs := RpL.keep k ws vs h
theorem RpL.nil : RpL K G H [] [] := rfl
theorem RpL.cons {w v ws vs} (h : Rp K G H w v) (t : RpL K G H ws vs) : RpL K G H (w :: ws) (v :: vs) := ⟨v, vs, rfl, h, t⟩
theorem RpL.length : ∀ {ws vs}, RpL K G H ws vs → vs.length = ws.length
  | [], _, h => by cases (show _ = _ from h); rfl
  | w :: ws, _, ⟨v, r, e, _, t⟩ => by rw [e, List.length_cons, List.length_cons, RpL.length t]
theorem RpL.get : ∀ {ws : List D} {vs : List V} {i : Nat} {w : D}, RpL K G H ws vs → ws[i]? = some w → ∃ v, vs[i]? = some v ∧ Rp K G H w v
  | [], _, _, _, _, e => by simp at e
  | x :: ws, _, 0, w, ⟨v, r, e, h, t⟩, q => by
    have : x = w := by simpa using q
    subst this; subst e; exact ⟨v, rfl, h⟩
  | x :: ws, _, i + 1, w, ⟨v, r, e, h, t⟩, q => by
    subst e
    obtain ⟨u, a, b⟩ := RpL.get (i := i) (w := w) t (by simpa using q)
    exact ⟨u, by simpa using a, b⟩
theorem RpL.getV : ∀ {ws : List D} {vs : List V} {i : Nat} {v : V}, RpL K G H ws vs → vs[i]? = some v → ∃ w, ws[i]? = some w ∧ Rp K G H w v
  | [], vs, _, _, h, e => by cases (show vs = [] from h); simp at e
  | x :: ws, _, 0, w, ⟨v, r, e, h, t⟩, q => by
    subst e
    have : v = w := by simpa using q
    subst this; exact ⟨x, rfl, h⟩
  | x :: ws, _, i + 1, w, ⟨v, r, e, h, t⟩, q => by
    subst e
    obtain ⟨u, a, b⟩ := RpL.getV (i := i) (v := w) t (by simpa using q)
    exact ⟨u, by simpa using a, b⟩
theorem RpL.append : ∀ {ws vs xs ys}, RpL K G H ws vs → RpL K G H xs ys → RpL K G H (ws ++ xs) (vs ++ ys)
  | [], _, _, _, h, s => by cases (show _ = _ from h); exact s
  | w :: ws, _, _, _, ⟨v, r, e, h, t⟩, s => by subst e; exact ⟨v, _, rfl, h, RpL.append t s⟩
theorem RpL.split : ∀ {ws xs : List D} {vs : List V}, RpL K G H (ws ++ xs) vs → ∃ a b, vs = a ++ b ∧ RpL K G H ws a ∧ RpL K G H xs b
  | [], _, vs, h => ⟨[], vs, rfl, rfl, h⟩
  | w :: ws, _, _, ⟨v, r, e, h, t⟩ => by
    obtain ⟨a, b, e', h1, h2⟩ := RpL.split (ws := ws) t
    subst e; subst e'
    exact ⟨v :: a, b, rfl, ⟨v, a, rfl, h, h1⟩, h2⟩
theorem RpL.take : ∀ {ws vs} (n : Nat), RpL K G H ws vs → RpL K G H (ws.take n) (vs.take n)
  | _, _, 0, _ => rfl
  | [], _, n + 1, h => by cases (show _ = _ from h); exact rfl
  | w :: ws, _, n + 1, ⟨v, r, e, h, t⟩ => by subst e; exact ⟨v, _, rfl, h, RpL.take n t⟩
theorem RpL.drop : ∀ {ws vs} (n : Nat), RpL K G H ws vs → RpL K G H (ws.drop n) (vs.drop n)
  | _, _, 0, h => h
  | [], _, n + 1, h => by cases (show _ = _ from h); exact rfl
  | w :: ws, _, n + 1, ⟨v, r, e, h, t⟩ => by subst e; exact RpL.drop n t
theorem RpL.set {w v} (hw : Rp K G H w v) : ∀ {ws vs} (n : Nat), RpL K G H ws vs → RpL K G H (ws.set n w) (vs.set n v)
  | [], _, n, h => by cases (show _ = _ from h); exact rfl
  | x :: ws, _, 0, ⟨y, r, e, h, t⟩ => by subst e; exact ⟨v, r, rfl, hw, t⟩
  | x :: ws, _, n + 1, ⟨y, r, e, h, t⟩ => by subst e; exact ⟨y, _, rfl, h, RpL.set hw n t⟩
theorem RpL.reverse {ws vs} (h : RpL K G H ws vs) : RpL K G H ws.reverse vs.reverse := by
  induction ws generalizing vs with
  | nil => cases (show _ = _ from h); exact rfl
  | cons w ws ih =>
    obtain ⟨v, r, e, h, t⟩ := h
    subst e
    rw [List.reverse_cons, List.reverse_cons]
    exact (ih t).append ⟨v, [], rfl, h, rfl⟩
theorem RpL.eraseIdx : ∀ {ws vs} (n : Nat), RpL K G H ws vs → RpL K G H (ws.eraseIdx n) (vs.eraseIdx n)
  | [], _, n, h => by cases (show _ = _ from h); exact rfl
  | x :: ws, _, 0, ⟨y, r, e, h, t⟩ => by subst e; exact t
  | x :: ws, _, n + 1, ⟨y, r, e, h, t⟩ => by subst e; exact ⟨y, _, rfl, h, RpL.eraseIdx n t⟩
theorem RpL.insertIdx {w v} (hw : Rp K G H w v) : ∀ {ws vs} (n : Nat), RpL K G H ws vs → RpL K G H (ws.insertIdx n w) (vs.insertIdx n v)
  | _, _, 0, h => ⟨v, _, rfl, hw, h⟩
  | [], _, n + 1, h => by cases (show _ = _ from h); exact rfl
  | x :: ws, _, n + 1, ⟨y, r, e, h, t⟩ => by subst e; exact ⟨y, _, rfl, h, RpL.insertIdx hw n t⟩
theorem RpL.dropLast {ws vs} (h : RpL K G H ws vs) : RpL K G H ws.dropLast vs.dropLast := by
  rw [List.dropLast_eq_take, List.dropLast_eq_take, h.length]
  exact h.take _
theorem RpL.rep {ws vs} (h : RpL K G H ws vs) : ∀ k : Nat, RpL K G H (List.replicate k ws).flatten (List.replicate k vs).flatten
  | 0 => rfl
  | k + 1 => by rw [List.replicate_succ, List.replicate_succ, List.flatten_cons, List.flatten_cons]; exact h.append (RpL.rep h k)
end
end ML

set_option maxRecDepth 100000
namespace ML
open PySem PySem.Spec L2
open PyProof.Rows hiding St

/-! ### objects, slots -/
def RF (K : PySem.W.Frag) (G : Gp) (H : Hp) : List (Str × D) → List (Str × V) → Prop
  | [], vs => vs = []
  | (n, w) :: r, vs => ∃ v t, vs = (n, v) :: t ∧ Rp K G H w v ∧ RF K G H r t
def RKv (K : PySem.W.Frag) (G : Gp) (H : Hp) : List (Key × D) → List (Key × V) → Prop
  | [], vs => vs = []
  | (n, w) :: r, vs => ∃ v t, vs = (n, v) :: t ∧ Rp K G H w v ∧ RKv K G H r t
def RO (K : PySem.W.Frag) (G : Gp) (H : Hp) (a : Addr) : MO → Prop
  | .lst ws => ∃ vs, H a = some (.lst vs) ∧ RpL K G H ws vs
  | .ins C fs => ∃ dx gs, H a = some (.ins C dx gs) ∧ G dx = none ∧ H dx = some (.own a) ∧ RF K G H fs gs
  | .dic kvs => ∃ lvs, H a = some (.dK lvs) ∧ RKv K G H kvs lvs
def RG (K : PySem.W.Frag) (G : Gp) (H : Hp) : Prop := ∀ a o, G a = some o → RO K G H a o
abbrev Sl := List (Option D)
def RS (K : PySem.W.Frag) (G : Gp) (H : Hp) (τ : Sl) (σ : St) : Prop := τ.length = σ.length ∧ ∀ (i : Nat) (w : D), τ[i]? = some (some w) → ∃ v, σ[i]? = some (some v) ∧ Rp K G H w v
section
variable {K : PySem.W.Frag} {G G' : Gp} {H H' : Hp} {τ : Sl} {σ : St}
theorem RF.kp (k : Kp G H G' H') : ∀ {fs gs}, RF K G H fs gs → RF K G' H' fs gs
  | [], _, h => h
  | (n, w) :: r, _, ⟨v, t, e, h, s⟩ => ⟨v, t, e, h.kp k, RF.kp k s⟩
theorem RKv.kp (k : Kp G H G' H') : ∀ {fs gs}, RKv K G H fs gs → RKv K G' H' fs gs
  | [], _, h => h
  | (n, w) :: r, _, ⟨v, t, e, h, s⟩ => ⟨v, t, e, h.kp k, RKv.kp k s⟩
theorem RS.kp (k : Kp G H G' H') (h : RS K G H τ σ) : RS K G' H' τ σ := ⟨h.1, fun i w e => let ⟨v, a, b⟩ := h.2 i w e; ⟨v, a, b.kp k⟩⟩
theorem RG.fresh (g : RG K G H) {p : Addr} (h : H p = none) : G p = none := by
  cases e : G p with
  | none => rfl
  | some o =>
    have := g p o e
    cases o with
    | lst ws => obtain ⟨vs, q, _⟩ := this; rw [h] at q; cases q
    | ins C fs => obtain ⟨dx, gs, q, _⟩ := this; rw [h] at q; cases q
    | dic kvs => obtain ⟨vs, q, _⟩ := this; rw [h] at q; cases q
theorem RS.set (h : RS K G H τ σ) {w : D} {v : V} (r : Rp K G H w v) (i : Nat) : RS K G H (τ.set i (some w)) (σ.set i (some v)) := by
  refine ⟨by simpa using h.1, fun j u e => ?_⟩
  by_cases hj : j = i
  · subst hj
    by_cases hl : j < τ.length
    · rw [List.getElem?_set_self hl] at e
      cases e
      exact ⟨v, List.getElem?_set_self (by rw [← h.1]; exact hl), r⟩
    · rw [List.getElem?_eq_none_iff.mpr (by rw [List.length_set]; omega)] at e; cases e
  · rw [List.getElem?_set_ne (Ne.symm hj)] at e
    obtain ⟨x, a, b⟩ := h.2 j u e
    exact ⟨x, by rw [List.getElem?_set_ne (Ne.symm hj)]; exact a, b⟩
/-- a new object that nobody changes -/
theorem kp_new {p : Addr} {o : HO} (h : H p = none) : Kp G H G (upd H p o) := fun a u g e => ⟨g, by rw [upd_ne (ne_of_none e h)]; exact e⟩
theorem ne_fresh {a p : Addr} {o : HO} (h : H p = none) (e : H a = some o) : a ≠ p := ne_of_none e h
theorem RO.kp_same {a : Addr} {o : MO} (k : Kp G H G' H') (ha : ∀ u, H a = some u → H' a = some u) (h : RO K G H a o) : RO K G' H' a o := by
  cases o with
  | lst ws => obtain ⟨vs, e, r⟩ := h; exact ⟨vs, ha _ e, r.kp k⟩
  | ins C fs =>
    obtain ⟨dx, gs, e, g, hd, r⟩ := h
    obtain ⟨g', hd'⟩ := k _ _ g hd
    exact ⟨dx, gs, ha _ e, g', hd', r.kp k⟩
  | dic kvs => obtain ⟨vs, e, r⟩ := h; exact ⟨vs, ha _ e, r.kp k⟩
theorem rg_new {p : Addr} {o : HO} (g : RG K G H) (h : H p = none) : RG K G (upd H p o) := fun a u e =>
  (g a u e).kp_same (kp_new h) fun x ex => by rw [upd_ne (ne_of_none ex h)]; exact ex
/-- a new object of its own -/
theorem kp_own {p : Addr} {o : HO} {m : MO} (h : H p = none) : Kp G H (put G p m) (upd H p o) := fun a u g e => by
  have ne := ne_of_none e h
  exact ⟨by rw [put_ne ne]; exact g, by rw [upd_ne ne]; exact e⟩
theorem rg_own {p : Addr} {vs : List V} {ws : List D} (g : RG K G H) (h : H p = none) (r : RpL K G H ws vs) : RG K (put G p (.lst ws)) (upd H p (.lst vs)) := fun a u e => by
  by_cases ha : a = p
  · subst ha
    rw [put_same] at e
    cases e
    exact ⟨vs, upd_same, r.kp (kp_own h)⟩
  · rw [put_ne ha] at e
    exact (g a u e).kp_same (kp_own h) fun x ex => by rw [upd_ne ha]; exact ex
/-- an object of its own changes -/
theorem kp_put {p : Addr} {o : HO} {m m' : MO} (h : G p = some m) : Kp G H (put G p m') (upd H p o) := fun a u g e => by
  have ne : a ≠ p := by intro z; subst z; rw [h] at g; cases g
  exact ⟨by rw [put_ne ne]; exact g, by rw [upd_ne ne]; exact e⟩
theorem rg_put {p : Addr} {vs : List V} {ws : List D} {m : MO} (g : RG K G H) (h : G p = some m) (r : RpL K G H ws vs) : RG K (put G p (.lst ws)) (upd H p (.lst vs)) := fun a u e => by
  by_cases ha : a = p
  · subst ha
    rw [put_same] at e
    cases e
    exact ⟨vs, upd_same, r.kp (kp_put h)⟩
  · rw [put_ne ha] at e
    exact (g a u e).kp_same (kp_put h) fun x ex => by rw [upd_ne ha]; exact ex
/-- an object of its own that nobody will change any more -/
theorem kp_del {p : Addr} : Kp G H (del G p) H := fun a u g e => by
  refine ⟨?_, e⟩
  unfold del
  split
  · rfl
  · exact g
theorem rg_del {p : Addr} (g : RG K G H) : RG K (del G p) H := fun a u e => by
  have : G a = some u := by
    unfold del at e
    split at e
    · cases e
    · exact e
  exact (g a u this).kp_same kp_del fun x ex => ex
end

/-! ### what a part of the program sees, and the rest -/
def jn (G F : Gp) : Gp := fun a => match G a with
  | some o => some o
  | none => F a
def Dj (G F : Gp) : Prop := ∀ a o, G a = some o → F a = none
def no : Gp := fun _ => none
theorem jn_some {G F : Gp} {a : Addr} {o : MO} (h : G a = some o) : jn G F a = some o := by unfold jn; rw [h]
theorem jn_none {G F : Gp} {a : Addr} (h : G a = none) : jn G F a = F a := by unfold jn; rw [h]
theorem jn_free {G F : Gp} {a : Addr} (h : jn G F a = none) : G a = none ∧ F a = none := by
  cases e : G a with
  | none => exact ⟨rfl, by rw [← jn_none (F := F) e]; exact h⟩
  | some o => rw [jn_some e] at h; cases h
theorem jn_no (G : Gp) : jn G no = G := by
  funext a
  cases e : G a with
  | none => rw [jn_none e]; rfl
  | some o => exact jn_some e
theorem dj_no (G : Gp) : Dj G no := fun _ _ _ => rfl
theorem jn_put {G F : Gp} {a : Addr} {o : MO} : jn (put G a o) F = put (jn G F) a o := by
  funext b
  by_cases h : b = a
  · subst h; rw [put_same, jn_some put_same]
  · rw [put_ne h]
    cases e : G b with
    | none => rw [jn_none e, jn_none (by rw [put_ne h]; exact e)]
    | some u => rw [jn_some e, jn_some (by rw [put_ne h]; exact e)]
theorem dj_put {G F : Gp} {a : Addr} {o : MO} (d : Dj G F) (h : F a = none) : Dj (put G a o) F := fun b u e => by
  by_cases hb : b = a
  · subst hb; exact h
  · rw [put_ne hb] at e; exact d b u e
theorem jn_assoc (G F E : Gp) : jn (jn G F) E = jn G (jn F E) := by
  funext a
  cases e : G a with
  | some o => rw [jn_some e, jn_some (jn_some e)]
  | none =>
    rw [jn_none e]
    cases e2 : F a with
    | some o => rw [jn_some e2, jn_some (by rw [jn_none e]; exact e2)]
    | none => rw [jn_none e2, jn_none (by rw [jn_none e]; exact e2)]

/-- where a def's body began -/
structure Bs where
  G : Gp
  H : Hp
structure RB (B : Bs) (K : PySem.W.Frag) (G : Gp) (H : Hp) : Prop where
  rg : RG K G H
  kp : Kp B.G B.H G H
theorem RB.go {B : Bs} {K : PySem.W.Frag} {G G' : Gp} {H H' : Hp} (b : RB B K G H) (k : Kp G H G' H') (rg : RG K G' H') : RB B K G' H' := ⟨rg, b.kp.trans k⟩

/-! ### judgements -/
abbrev MK := D → Gp → Prop
abbrev TEm := Sl → Gp → MK → Prop
abbrev TTm := Sl → Gp → (Bool → Gp → Prop) → Prop
abbrev TAm := Sl → Gp → (List D → Gp → Prop) → Prop
/-- what is wanted, seen below; F: what this part does not see -/
def Po (K : PySem.W.Frag) (F G : Gp) (H : Hp) (Q : MK) (v : V) (H' : Hp) : Prop := ∃ w G', Dj G' F ∧ Kp (jn G F) H (jn G' F) H' ∧ RG K (jn G' F) H' ∧ Rp K (jn G' F) H' w v ∧ Q w G'
def PoT (K : PySem.W.Frag) (F G : Gp) (H : Hp) (Q : Bool → Gp → Prop) (b : Bool) (H' : Hp) : Prop := ∃ G', Dj G' F ∧ Kp (jn G F) H (jn G' F) H' ∧ RG K (jn G' F) H' ∧ Q b G'
def PoA (K : PySem.W.Frag) (F G : Gp) (H : Hp) (Q : List D → Gp → Prop) (vs : List V) (H' : Hp) : Prop := ∃ ws G', Dj G' F ∧ Kp (jn G F) H (jn G' F) H' ∧ RG K (jn G' F) H' ∧ RpL K (jn G' F) H' ws vs ∧ Q ws G'
def liftE (B : Bs) (K : PySem.W.Frag) (T : TEm) : TE := fun σ H Q => ∃ τ G F q, Dj G F ∧ RS K (jn G F) H τ σ ∧ RB B K (jn G F) H ∧ T τ G q ∧ ∀ v H', Po K F G H q v H' → Q v H'
def liftT (B : Bs) (K : PySem.W.Frag) (T : TTm) : TT := fun σ H Q => ∃ τ G F q, Dj G F ∧ RS K (jn G F) H τ σ ∧ RB B K (jn G F) H ∧ T τ G q ∧ ∀ v H', PoT K F G H q v H' → Q v H'
def liftA (B : Bs) (K : PySem.W.Frag) (T : TAm) : TA := fun σ H Q => ∃ τ G F q, Dj G F ∧ RS K (jn G F) H τ σ ∧ RB B K (jn G F) H ∧ T τ G q ∧ ∀ v H', PoA K F G H q v H' → Q v H'
def ME (B : Bs) (X : Cx) (e : Expr) (T : TEm) : Prop := PE X e (liftE B X.K T)
def MT (B : Bs) (X : Cx) (e : Expr) (T : TTm) : Prop := PT X e (liftT B X.K T)
def MA (B : Bs) (X : Cx) (es : List Expr) (T : TAm) : Prop := PA X es (liftA B X.K T)
theorem EP.to {X : Cx} {pins : List (Addr × Obj)} {σ : St} {Q Q' : VK} {u : Value} {s : Shared} (h : EP X pins σ Q u s) (k : ∀ v H, Q v H → Q' v H) : EP X pins σ Q' u s :=
  let ⟨v, H, I, r, q⟩ := h; ⟨v, H, I, r, k v H q⟩
theorem TP.to {X : Cx} {pins : List (Addr × Obj)} {σ : St} {Q Q' : Bool → Hp → Prop} {u : Bool} {s : Shared} (h : TP X pins σ Q u s) (k : ∀ v H, Q v H → Q' v H) : TP X pins σ Q' u s :=
  let ⟨H, I, q⟩ := h; ⟨H, I, k u H q⟩
theorem AP.to {X : Cx} {pins : List (Addr × Obj)} {σ : St} {Q Q' : List V → Hp → Prop} {u : List Value} {s : Shared} (h : AP X pins σ Q u s) (k : ∀ v H, Q v H → Q' v H) : AP X pins σ Q' u s :=
  let ⟨v, H, I, r, q⟩ := h; ⟨v, H, I, r, k v H q⟩
/-- from a rule of the layer below -/
theorem me_of {B : Bs} {X : Cx} {e : Expr} {t : TE} {T : TEm} (h : PE X e t) (k : ∀ σ H τ G F q, Dj G F → RS X.K (jn G F) H τ σ → RB B X.K (jn G F) H → T τ G q → t σ H (Po X.K F G H q)) : ME B X e T :=
  ⟨fun pins s σ H Q I ⟨τ, G, F, q, dj, rs, rg, ht, c⟩ => thn (h.run pins s σ H _ I (k σ H τ G F q dj rs rg ht)) fun u s' z => EP.to z c⟩
theorem mt_of {B : Bs} {X : Cx} {e : Expr} {t : TT} {T : TTm} (h : PT X e t) (k : ∀ σ H τ G F q, Dj G F → RS X.K (jn G F) H τ σ → RB B X.K (jn G F) H → T τ G q → t σ H (PoT X.K F G H q)) : MT B X e T :=
  ⟨fun pins s σ H Q I ⟨τ, G, F, q, dj, rs, rg, ht, c⟩ => thn (h.run pins s σ H _ I (k σ H τ G F q dj rs rg ht)) fun u s' z => TP.to z c⟩
theorem ma_of {B : Bs} {X : Cx} {e : List Expr} {t : TA} {T : TAm} (h : PA X e t) (k : ∀ σ H τ G F q, Dj G F → RS X.K (jn G F) H τ σ → RB B X.K (jn G F) H → T τ G q → t σ H (PoA X.K F G H q)) : MA B X e T :=
  ⟨fun pos pins s σ H Q I ⟨τ, G, F, q, dj, rs, rg, ht, c⟩ => thn (h.run pos pins s σ H _ I (k σ H τ G F q dj rs rg ht)) fun u s' z => AP.to z c⟩
section
variable {K : PySem.W.Frag} {F G : Gp} {H : Hp} {τ : Sl} {σ : St}
theorem Po.here {q : MK} {w : D} {v : V} (dj : Dj G F) (rg : RG K (jn G F) H) (r : Rp K (jn G F) H w v) (h : q w G) : Po K F G H q v H := ⟨w, G, dj, Kp.refl _ _, rg, r, h⟩
theorem Po.behind {q : MK} {G1 : Gp} {H1 : Hp} {v : V} {H' : Hp} (k : Kp (jn G F) H (jn G1 F) H1) (h : Po K F G1 H1 q v H') : Po K F G H q v H' :=
  let ⟨w, G', d, k', rg, r, z⟩ := h; ⟨w, G', d, k.trans k', rg, r, z⟩
theorem PoT.behind {q : Bool → Gp → Prop} {G1 : Gp} {H1 : Hp} {v : Bool} {H' : Hp} (k : Kp (jn G F) H (jn G1 F) H1) (h : PoT K F G1 H1 q v H') : PoT K F G H q v H' :=
  let ⟨G', d, k', rg, z⟩ := h; ⟨G', d, k.trans k', rg, z⟩
theorem PoA.behind {q : List D → Gp → Prop} {G1 : Gp} {H1 : Hp} {v : List V} {H' : Hp} (k : Kp (jn G F) H (jn G1 F) H1) (h : PoA K F G1 H1 q v H') : PoA K F G H q v H' :=
  let ⟨w, G', d, k', rg, r, z⟩ := h; ⟨w, G', d, k.trans k', rg, r, z⟩
/-- a new list: whole, or of its own -/
def newL (own : Bool) (ws : List D) (G : Gp) (q : MK) : Prop :=
  match own with
  | true => ∀ p, G p = none → q (.ref p) (put G p (.lst ws))
  | false => q (.lst ws) G
theorem new_lst {own : Bool} {ws : List D} {vs : List V} {q : MK} {p : Addr} (dj : Dj G F) (rg : RG K (jn G F) H) (hp : H p = none) (r : RpL K (jn G F) H ws vs) (h : newL own ws G q) : Po K F G H q (.ref p) (upd H p (.lst vs)) := by
  have fr := jn_free (rg.fresh hp)
  cases own with
  | true => exact ⟨.ref p, put G p (.lst ws), dj_put dj fr.2, by rw [jn_put]; exact kp_own hp, by rw [jn_put]; exact rg_own rg hp r, rfl, h p fr.1⟩
  | false => exact ⟨.lst ws, G, dj, kp_new hp, rg_new rg hp, ⟨p, vs, rfl, ⟨rg.fresh hp, upd_same⟩, r.kp (kp_new hp)⟩, h⟩
theorem new_tup {ws : List D} {vs : List V} {q : MK} {p : Addr} (dj : Dj G F) (rg : RG K (jn G F) H) (hp : H p = none) (r : RpL K (jn G F) H ws vs) (h : q (.tup ws) G) : Po K F G H q (.ref p) (upd H p (.tup vs)) :=
  ⟨.tup ws, G, dj, kp_new hp, rg_new rg hp, ⟨p, vs, rfl, .inl ⟨rg.fresh hp, upd_same⟩, r.kp (kp_new hp)⟩, h⟩
/-- an own list changes -/
theorem put_step {p : Addr} {vs : List V} {ws : List D} {m : MO} (dj : Dj G F) (rg : RG K (jn G F) H) (h : G p = some m) (r : RpL K (jn G F) H ws vs) :
    Dj (put G p (.lst ws)) F ∧ Kp (jn G F) H (jn (put G p (.lst ws)) F) (upd H p (.lst vs)) ∧ RG K (jn (put G p (.lst ws)) F) (upd H p (.lst vs)) :=
  ⟨dj_put dj (dj p m h), by rw [jn_put]; exact kp_put (jn_some h), by rw [jn_put]; exact rg_put rg (jn_some h) r⟩
end

/-! ### names, constants -/
def mVar (i : Nat) : TEm := fun τ G q => ∃ w, τ[i]? = some (some w) ∧ q w G
def mC (w : D) : TEm := fun _ G q => q w G
section
variable {B : Bs} {X : Cx} {a b c e : Expr} {es rest : List Expr} {pos : Pos} {Ta Tb Tc Te : TEm} {Tl : TAm}
theorem m_var {i : Nat} {x : Str} (hN : X.N[i]? = some x) (hv : Vis X.env.scope x) (hd : (x == ("__debug__" : Str)) = false := by decide) (hcd : (x == ("__classdict__" : Str)) = false := by decide) : ME B X (.Name x pos) (mVar i) :=
  me_of (pe_var hN hv hd hcd) fun σ H τ G F q dj rs rg h => by
    obtain ⟨w, e, h⟩ := h
    obtain ⟨v, ev, r⟩ := rs.2 i w e
    exact ⟨v, ev, Po.here dj rg.rg r h⟩
theorem mv (i : Nat) {x : Str} {pos : Pos} (hN : X.N[i]? = some x := by rfl) (hv : Vis X.env.scope x := by first | exact Or.inl rfl | exact Or.inr (Or.inl rfl) | exact Or.inr (Or.inr rfl)) (hd : (x == ("__debug__" : Str)) = false := by decide)
    (hcd : (x == ("__classdict__" : Str)) = false := by decide) : ME B X (.Name x pos) (mVar i) := m_var hN hv hd hcd
theorem m_int {i j pos} : ME B X (.Constant (.int i) j pos) (mC (.int i)) := me_of pe_int fun _ _ _ _ _ _ dj _ rg h => Po.here (w := .int i) dj rg.rg rfl h
theorem m_bl {i j pos} : ME B X (.Constant (.bool i) j pos) (mC (.bl i)) := me_of pe_bl fun _ _ _ _ _ _ dj _ rg h => Po.here (w := .bl i) dj rg.rg rfl h
theorem m_non {j pos} : ME B X (.Constant .none j pos) (mC .non) := me_of pe_non fun _ _ _ _ _ _ dj _ rg h => Po.here (w := .non) dj rg.rg rfl h
theorem m_str {i j pos} : ME B X (.Constant (.str i) j pos) (mC (.str i)) := me_of pe_str fun _ _ _ _ _ _ dj _ rg h => Po.here (w := .str i) dj rg.rg rfl h
/-- a name of the module -/
theorem m_glob {x : Str} {w : D} {v : V} {u : Value} {pos : Pos} (hg : Gl X x) (hm : X.mg x = some u) (r : RelV v u) (rp : ∀ G H, Rp X.K G H w v) (hd : (x == ("__debug__" : Str)) = false := by decide) : ME B X (.Name x pos) (mC w) :=
  me_of (pe_glob hg hm r hd) fun _ H _ G F _ dj _ rg h => Po.here dj rg.rg (rp _ H) h
theorem m_bltn {x : Str} {w : D} {v : V} {u : Value} {pos : Pos} (hg : Gl X x) (hm : X.mg x = none) (hv : bootBuiltins x = some u) (r : RelV v u) (rp : ∀ G H, Rp X.K G H w v) (hn : x ≠ "__name__" := by decide) (hd : (x == ("__debug__" : Str)) = false := by decide) : ME B X (.Name x pos) (mC w) :=
  me_of (pe_bltn hg hm hv r hn hd) fun _ H _ G F _ dj _ rg h => Po.here dj rg.rg (rp _ H) h

/-! ### operators -/
abbrev M2 := D → D → Gp → MK → Prop
def OpM (X : Cx) (f : Value → Value → Sem Value) (m : M2) : Prop :=
  ∀ (pins : List (Addr × Obj)) (s : Shared) (σ : St) (H : Hp) (G F : Gp) (x y : D) (xv yv : V) (v u : Value) (q : MK), Inv X pins σ H s → RelV xv v → RelV yv u → Dj G F → RG X.K (jn G F) H → Rp X.K (jn G F) H x xv → Rp X.K (jn G F) H y yv → m x y G q →
    wpAny (model X.prog X.w) X.A (f v u) (EP X pins σ (Po X.K F G H q)) X.xe s
def mOp (m : M2) (Ta Tb : TEm) : TEm := fun τ G q => Ta τ G fun x G1 => Tb τ G1 fun y G2 => m x y G2 q
def ROp (X : Cx) (m : M2) : R2 := fun xv yv H Q => ∃ G F x y q, Dj G F ∧ RG X.K (jn G F) H ∧ Rp X.K (jn G F) H x xv ∧ Rp X.K (jn G F) H y yv ∧ m x y G q ∧ ∀ v H', Po X.K F G H q v H' → Q v H'
theorem opR_of {f : Value → Value → Sem Value} {m : M2} (h : OpM X f m) : OpR X f (ROp X m) :=
  fun pins s σ H xv yv v u Q I rx ry ⟨G, F, x, y, q, dj, rg, px, py, hm, k⟩ => thn (h pins s σ H G F x y xv yv v u q I rx ry dj rg px py hm) fun u s z => EP.to z k
theorem two {m : M2} {σ : St} {H : Hp} {τ : Sl} {G F : Gp} {q : MK} (dj : Dj G F) (rs : RS X.K (jn G F) H τ σ) (rg : RB B X.K (jn G F) H) (h : mOp m Ta Tb τ G q) :
    tOp (ROp X m) (liftE B X.K Ta) (liftE B X.K Tb) σ H (Po X.K F G H q) :=
  ⟨τ, G, F, _, dj, rs, rg, h, fun v H1 ⟨w, G1, d1, k1, rg1, r1, h1⟩ => ⟨τ, G1, F, _, d1, rs.kp k1, rg.go k1 rg1, h1, fun v2 H2 ⟨w2, G2, d2, k2, rg2, r2, h2⟩ => ⟨G2, F, w, w2, q, d2, rg2, r1.kp k2, r2, h2, fun v H' z => z.behind (k1.trans k2)⟩⟩⟩
theorem m_op {op : Operator} {m : M2} (ho : OpM X (binaryOp op) m) (ha : ME B X a Ta) (hb : ME B X b Tb) : ME B X (.BinOp a op b pos) (mOp m Ta Tb) :=
  me_of (pe_op (opR_of ho) ha hb) fun _ _ _ _ _ _ dj rs rg h => two dj rs rg h
theorem m_cmp {op : CmpOp} {m : M2} (ho : OpM X (compareOp op) m) (ha : ME B X a Ta) (hb : ME B X b Tb) (hm : behindInMarks op b = false := by first | exact nomark _ | rfl) : ME B X (.Compare a [op] [b] pos) (mOp m Ta Tb) :=
  me_of (pe_cmpR (opR_of ho) ha hb hm) fun _ _ _ _ _ _ dj rs rg h => two dj rs rg h
def mTest (T : TEm) : TTm := fun τ G q => T τ G fun x G1 => match x with | .bl b => q b G1 | _ => False
theorem PoT.of_bl {K : PySem.W.Frag} {F G : Gp} {H : Hp} {q : Bool → Gp → Prop} {v : V} {H' : Hp} (h : Po K F G H (fun x G1 => match x with | .bl b => q b G1 | _ => False) v H') : ∃ k, v = .bl k ∧ PoT K F G H q k H' := by
  obtain ⟨w, G', d, k, rg, r, z⟩ := h
  cases w with
  | bl b => exact ⟨b, r, G', d, k, rg, z⟩
  | _ => exact z.elim
theorem mt_cmp {op : CmpOp} {m : M2} (ho : OpM X (compareOp op) m) (ha : ME B X a Ta) (hb : ME B X b Tb) (hm : behindInMarks op b = false := by first | exact nomark _ | rfl) : MT B X (.Compare a [op] [b] pos) (mTest (mOp m Ta Tb)) :=
  mt_of (pt_cmpR (opR_of ho) ha hb hm) fun σ H τ G F q dj rs rg h =>
    ⟨τ, G, F, _, dj, rs, rg, h, fun v H1 ⟨w, G1, d1, k1, rg1, r1, h1⟩ => ⟨τ, G1, F, _, d1, rs.kp k1, rg.go k1 rg1, h1, fun v2 H2 ⟨w2, G2, d2, k2, rg2, r2, h2⟩ => ⟨G2, F, w, w2, _, d2, rg2, r1.kp k2, r2, h2, fun v H' z => by
      obtain ⟨b, e, z⟩ := PoT.of_bl z
      exact ⟨b, e, z.behind (k1.trans k2)⟩⟩⟩⟩
/-- a test that is a True or False -/
theorem mt_val (he : ME B X e Te) (hw : ∀ whole, isTrue e X.env whole = (do let v ← whole; standAt e.pos; holding [v] (truthy v)) := by intro _; rfl) : MT B X e (mTest Te) :=
  mt_of (pt_val he hw) fun σ H τ G F q dj rs rg h => ⟨τ, G, F, _, dj, rs, rg, h, fun v H1 z => PoT.of_bl z⟩
end
end ML

set_option maxRecDepth 100000
namespace ML
open PySem PySem.Spec L2
open PyProof.Rows hiding St

/-! ### == of data -/
mutual
def eqD : D → D → Bool
  | .non, .non => true
  | .bl a, .bl b => a == b
  | .bl a, .int j => (if a then 1 else 0) == j
  | .int i, .bl b => i == (if b then 1 else 0)
  | .int i, .int j => i == j
  | .str x, .str y => x == y
  | .lst xs, .lst ys => eqDs xs ys
  | .tup xs, .tup ys => eqDs xs ys
  | _, _ => false
def eqDs : List D → List D → Bool
  | [], [] => true
  | x :: xs, y :: ys => eqD x y && eqDs xs ys
  | _, _ => false
end
mutual
def pd : D → PyData
  | .non => .none
  | .bl b => .bool b
  | .int i => .int i
  | .str x => .str x
  | .lst xs => .list (pds xs)
  | .tup xs => .tuple (pds xs)
  | _ => .none
def pds : List D → List PyData
  | [] => []
  | x :: xs => pd x :: pds xs
end
/-! data: no objects; its texts are texts -/
mutual
def okD : D → Bool
  | .non | .bl _ | .int _ => true
  | .str x => PyData.strOk x
  | .lst xs | .tup xs => okDs xs
  | _ => false
def okDs : List D → Bool
  | [] => true
  | x :: xs => okD x && okDs xs
end
mutual
def dep : D → Nat
  | .lst xs | .tup xs => deps xs + 1
  | _ => 0
def deps : List D → Nat
  | [] => 0
  | x :: xs => max (dep x) (deps xs)
end
theorem okDs_cons {x : D} {xs : List D} : okDs (x :: xs) = (okD x && okDs xs) := rfl
mutual
theorem can_of : ∀ d : D, okD d = true → (pd d).canLay0 = true
  | .non, _ => rfl
  | .bl _, _ => rfl
  | .int _, _ => rfl
  | .str x, h => h
  | .lst xs, h => by simpa [pd, PyData.canLay0] using cans_of xs h
  | .tup xs, h => by simpa [pd, PyData.canLay0] using cans_of xs h
  | .ref _, h => by cases h
  | .ty _, h => by cases h
  | .fz _, h => by cases h
theorem cans_of : ∀ ds : List D, okDs ds = true → PyData.canLayAll0 (pds ds) = true
  | [], _ => rfl
  | x :: xs, h => by
    have h' := Bool.and_eq_true_iff.mp h
    show ((pd x).canLay0 && PyData.canLayAll0 (pds xs)) = true
    rw [can_of x h'.1, cans_of xs h'.2]; rfl
end
mutual
theorem dep_pd : ∀ d : D, (pd d).depth ≤ dep d
  | .non => by simp [pd, dep, PyData.depth]
  | .bl _ => by simp [pd, dep, PyData.depth]
  | .int _ => by simp [pd, dep, PyData.depth]
  | .str x => by simp [pd, dep, PyData.depth]
  | .lst xs => by
    have := deps_pd xs
    simp only [pd, dep, PyData.depth]
    omega
  | .tup xs => by
    have := deps_pd xs
    simp only [pd, dep, PyData.depth]
    omega
  | .ref _ => by simp [pd, dep, PyData.depth]
  | .ty _ => by simp [pd, dep, PyData.depth]
  | .fz _ => by simp [pd, dep, PyData.depth]
theorem deps_pd : ∀ ds : List D, PyData.depthAll (pds ds) ≤ deps ds
  | [] => by simp [pds, deps, PyData.depthAll]
  | x :: xs => by
    have h1 := dep_pd x
    have h2 := deps_pd xs
    simp only [pds, deps, PyData.depthAll]
    omega
end
mutual
theorem eqv_pd : ∀ d e : D, okD d = true → okD e = true → PyData.eqv (pd d) (pd e) = eqD d e
  | .non, .non, _, _ => rfl
  | .non, .bl _, _, _ => rfl
  | .non, .int _, _, _ => rfl
  | .non, .str _, _, _ => rfl
  | .non, .lst _, _, _ => rfl
  | .non, .tup _, _, _ => rfl
  | .bl _, .non, _, _ => rfl
  | .bl _, .bl _, _, _ => rfl
  | .bl _, .int _, _, _ => rfl
  | .bl _, .str _, _, _ => rfl
  | .bl _, .lst _, _, _ => rfl
  | .bl _, .tup _, _, _ => rfl
  | .int _, .non, _, _ => rfl
  | .int _, .bl _, _, _ => rfl
  | .int _, .int _, _, _ => rfl
  | .int _, .str _, _, _ => rfl
  | .int _, .lst _, _, _ => rfl
  | .int _, .tup _, _, _ => rfl
  | .str _, .non, _, _ => rfl
  | .str _, .bl _, _, _ => rfl
  | .str _, .int _, _, _ => rfl
  | .str _, .str _, _, _ => rfl
  | .str _, .lst _, _, _ => rfl
  | .str _, .tup _, _, _ => rfl
  | .lst _, .non, _, _ => rfl
  | .lst _, .bl _, _, _ => rfl
  | .lst _, .int _, _, _ => rfl
  | .lst _, .str _, _, _ => rfl
  | .lst xs, .lst ys, h1, h2 => eqvs_pd xs ys h1 h2
  | .lst _, .tup _, _, _ => rfl
  | .tup _, .non, _, _ => rfl
  | .tup _, .bl _, _, _ => rfl
  | .tup _, .int _, _, _ => rfl
  | .tup _, .str _, _, _ => rfl
  | .tup _, .lst _, _, _ => rfl
  | .tup xs, .tup ys, h1, h2 => eqvs_pd xs ys h1 h2
  | .ref _, _, h, _ => by cases h
  | .ty _, _, h, _ => by cases h
  | .fz _, _, h, _ => by cases h
  | _, .ref _, _, h => by cases h
  | _, .ty _, _, h => by cases h
  | _, .fz _, _, h => by cases h
theorem eqvs_pd : ∀ ds es : List D, okDs ds = true → okDs es = true → PyData.eqvAll (pds ds) (pds es) = eqDs ds es
  | [], [], _, _ => rfl
  | [], _ :: _, _, _ => rfl
  | _ :: _, [], _, _ => rfl
  | x :: xs, y :: ys, h1, h2 => by
    have a := Bool.and_eq_true_iff.mp h1
    have b := Bool.and_eq_true_iff.mp h2
    show (PyData.eqv (pd x) (pd y) && PyData.eqvAll (pds xs) (pds ys)) = (eqD x y && eqDs xs ys)
    rw [eqv_pd x y a.1 b.1, eqvs_pd xs ys a.2 b.2]
end
theorem shaped_pd {d : D} (h : okD d = true) (hd : dep d ≤ 64) : SeqAt.shaped (pd d) = true := by
  unfold SeqAt.shaped
  rw [can_of d h, Bool.true_and]
  exact decide_eq_true (Nat.le_trans (dep_pd d) hd)
section
variable {K : PySem.W.Frag} {G : Gp} {H : Hp}
mutual
theorem dp_of : ∀ (d : D) (v : V), okD d = true → Rp K G H d v → Dp K H v (pd d)
  | .non, _, _, r => by cases (show _ = V.non from r); exact .non
  | .bl b, _, _, r => by cases (show _ = V.bl b from r); exact .bl b
  | .int b, _, _, r => by cases (show _ = V.int b from r); exact .int b
  | .str b, _, _, r => by cases (show _ = V.str b from r); exact .str b
  | .lst xs, _, h, ⟨p, vs, e, a, r⟩ => by subst e; exact .lst a.sq (dps_of xs vs h r)
  | .tup xs, _, h, ⟨p, vs, e, a, r⟩ => by subst e; exact .tup a.sq (dps_of xs vs h r)
  | .ref _, _, h, _ => by cases h
  | .ty _, _, h, _ => by cases h
  | .fz _, _, h, _ => by cases h
theorem dps_of : ∀ (ds : List D) (vs : List V), okDs ds = true → RpL K G H ds vs → DpAll K H vs (pds ds)
  | [], _, _, r => by cases (show _ = _ from r); exact .nil
  | x :: xs, _, h, ⟨v, t, e, a, r⟩ => by
    have h' := Bool.and_eq_true_iff.mp h
    subst e
    exact .cons (dp_of x v h'.1 a) (dps_of xs t h'.2 r)
end
end
/-- x, or what an own list holds -/
def Sees (G : Gp) (x x' : D) : Prop := x' = x ∨ ∃ a ws, x = .ref a ∧ G a = some (.lst ws) ∧ x' = .lst ws
theorem Sees.dp {K : PySem.W.Frag} {F G : Gp} {H : Hp} {x x' : D} {v : V} (h : Sees G x x') (rg : RG K (jn G F) H) (r : Rp K (jn G F) H x v) (o : okD x' = true) : Dp K H v (pd x') := by
  rcases h with e | ⟨a, ws, e, g, e'⟩
  · subst e; exact dp_of _ v o r
  · subst e; subst e'
    obtain ⟨vs, hv, rv⟩ := rg a _ (jn_some g)
    cases (show v = .ref a from r)
    exact .lst (.inl (.inl hv)) (dps_of ws vs o rv)

/-! ### the list that a value is -/
def LstOf (G : Gp) (x : D) (ws : List D) : Prop :=
  match x with
  | .lst us => ws = us
  | .fz us => ws = us
  | .ref a => G a = some (.lst ws)
  | _ => False
def SeqOf (G : Gp) (x : D) (ws : List D) : Prop :=
  match x with
  | .lst us => ws = us
  | .fz us => ws = us
  | .tup us => ws = us
  | .ref a => G a = some (.lst ws)
  | _ => False
section
variable {K : PySem.W.Frag} {F G : Gp} {H : Hp}
theorem LstOf.at {x : D} {ws : List D} {v : V} (h : LstOf G x ws) (rg : RG K (jn G F) H) (r : Rp K (jn G F) H x v) : ∃ p vs, v = .ref p ∧ SqL K H p vs ∧ RpL K (jn G F) H ws vs := by
  cases x with
  | lst us => cases h; obtain ⟨p, vs, e, a, r⟩ := r; exact ⟨p, vs, e, a.sq, r⟩
  | fz us => cases h; obtain ⟨p, vs, e, a, r⟩ := r; exact ⟨p, vs, e, a.sq, r⟩
  | ref a => obtain ⟨vs, hv, rv⟩ := rg a _ (jn_some h); exact ⟨a, vs, r, .inl (.inl hv), rv⟩
  | _ => exact False.elim h
theorem SeqOf.at {x : D} {ws : List D} {v : V} (h : SeqOf G x ws) (rg : RG K (jn G F) H) (r : Rp K (jn G F) H x v) : ∃ p vs, v = .ref p ∧ (SqL K H p vs ∨ SqT K H p vs) ∧ RpL K (jn G F) H ws vs := by
  cases x with
  | lst us => cases h; obtain ⟨p, vs, e, a, r⟩ := r; exact ⟨p, vs, e, .inl a.sq, r⟩
  | fz us => cases h; obtain ⟨p, vs, e, a, r⟩ := r; exact ⟨p, vs, e, .inl a.sq, r⟩
  | tup us => cases h; obtain ⟨p, vs, e, a, r⟩ := r; exact ⟨p, vs, e, .inr a.sq, r⟩
  | ref a => obtain ⟨vs, hv, rv⟩ := rg a _ (jn_some h); exact ⟨a, vs, r, .inl (.inl (.inl hv)), rv⟩
  | _ => exact False.elim h
/-- a list object that + and * take -/
def HdOf (G : Gp) (x : D) (ws : List D) : Prop :=
  match x with
  | .lst us => ws = us
  | .ref a => G a = some (.lst ws)
  | _ => False
theorem HdOf.at {x : D} {ws : List D} {v : V} (h : HdOf G x ws) (rg : RG K (jn G F) H) (r : Rp K (jn G F) H x v) : ∃ p vs, v = .ref p ∧ H p = some (.lst vs) ∧ RpL K (jn G F) H ws vs := by
  cases x with
  | lst us => cases h; obtain ⟨p, vs, e, a, r⟩ := r; exact ⟨p, vs, e, a.2, r⟩
  | ref a => obtain ⟨vs, hv, rv⟩ := rg a _ (jn_some h); exact ⟨a, vs, r, hv, rv⟩
  | _ => exact False.elim h
end

/-! ### operators -/
def mAdd (own : Bool) : M2 := fun x y G q => match x, y with
  | .int i, .int j => q (.int (i + j)) G
  | .int i, .bl k => q (.int (i + b2i k)) G
  | .str a, .str b => a.length + b.length ≤ sizeLine ∧ q (.str (a ++ b)) G
  | .tup xs, .tup ys => xs.length + ys.length ≤ sizeLine ∧ q (.tup (xs ++ ys)) G
  | x, y => ∃ xs ys, HdOf G x xs ∧ HdOf G y ys ∧ xs.length + ys.length ≤ sizeLine ∧ newL own (xs ++ ys) G q
def mSub : M2 := fun x y G q => match x, y with
  | .int i, .int j => q (.int (i - j)) G
  | _, _ => False
def mMul (own : Bool) : M2 := fun x y G q => match x, y with
  | .int i, .int j => (CMul i j ∨ CMulW i j) ∧ q (.int (i * j)) G
  | .str a, .int k => PySem.MulOk a k ∧ q (.str (Txt.mul a k)) G
  | .tup xs, .int k => (xs ≠ [] ∧ 2 ≤ k ∧ k ≤ 1000 ∧ xs.length ≤ 1000) ∧ q (.tup (List.replicate k.toNat xs).flatten) G
  | x, .int k => ∃ xs, HdOf G x xs ∧ (-(2 ^ 63) ≤ k ∧ k < 2 ^ 63 ∧ xs.length * k.toNat ≤ sizeLine) ∧ newL own (List.replicate k.toNat xs).flatten G q
  | _, _ => False
def mMod : M2 := fun x y G q => match x, y with
  | .int i, .int j => 0 < j ∧ q (.int (i % j)) G
  | _, _ => False
def mFdv : M2 := fun x y G q => match x, y with
  | .int i, .int j => CDivW i j ∧ q (.int (i / j)) G
  | _, _ => False
def mPow : M2 := fun x y G q => match x, y with
  | .int i, .int j => CPow i j ∧ q (.int (i ^ j.toNat)) G
  | _, _ => False
section
variable {X : Cx}
theorem OpM.int {f : Value → Value → Sem Value} {C : Int → Int → Prop} {g : Int → Int → Int} (ho : OpR X f (rI C fun i j => .int (g i j))) {i j : Int} {pins : List (Addr × Obj)} {s : Shared} {σ : St} {H : Hp} {G F : Gp} {xv yv : V} {v u : Value} {q : MK}
    (I : Inv X pins σ H s) (rx : RelV xv v) (ry : RelV yv u) (dj : Dj G F) (rg : RG X.K (jn G F) H) (px : xv = .int i) (py : yv = .int j) (hc : C i j) (h : q (.int (g i j)) G) : wpAny (model X.prog X.w) X.A (f v u) (EP X pins σ (Po X.K F G H q)) X.xe s :=
  ho pins s σ H xv yv v u _ I rx ry ⟨i, j, px, py, hc, Po.here (w := .int _) dj rg rfl h⟩
theorem OpM.int0 {f : Value → Value → Sem Value} {g : Int → Int → Int} (ho : OpR X f (rI0 fun i j => .int (g i j))) {i j : Int} {pins : List (Addr × Obj)} {s : Shared} {σ : St} {H : Hp} {G F : Gp} {xv yv : V} {v u : Value} {q : MK}
    (I : Inv X pins σ H s) (rx : RelV xv v) (ry : RelV yv u) (dj : Dj G F) (rg : RG X.K (jn G F) H) (px : xv = .int i) (py : yv = .int j) (h : q (.int (g i j)) G) : wpAny (model X.prog X.w) X.A (f v u) (EP X pins σ (Po X.K F G H q)) X.xe s :=
  ho pins s σ H xv yv v u _ I rx ry ⟨i, j, px, py, Po.here (w := .int _) dj rg rfl h⟩
theorem o_add {own : Bool} : OpM X (binaryOp .Add) (mAdd own) := by
  intro pins s σ H G F x y xv yv v u q I rx ry dj rg px py h
  have lists : (∃ xs ys, HdOf G x xs ∧ HdOf G y ys ∧ xs.length + ys.length ≤ sizeLine ∧ newL own (xs ++ ys) G q) → wpAny (model X.prog X.w) X.A (binaryOp .Add v u) (EP X pins σ (Po X.K F G H q)) X.xe s := by
    rintro ⟨xs, ys, hx, hy, hz, h⟩
    obtain ⟨l, vs, rfl, hl, rl⟩ := hx.at rg px
    obtain ⟨b, zs, rfl, hb, rb⟩ := hy.at rg py
    exact op_cat pins s σ H _ _ v u _ I rx ry ⟨l, b, vs, zs, rfl, rfl, hl, hb, by rw [rl.length, rb.length]; exact hz, fun p hp => new_lst dj rg hp (rl.append rb) h⟩
  cases x with
  | int i =>
    cases y with
    | int j => exact OpM.int0 op_add I rx ry dj rg px py h
    | bl k => exact op_add_ib pins s σ H xv yv v u _ I rx ry ⟨i, k, px, py, Po.here (w := .int _) dj rg rfl h⟩
    | _ => obtain ⟨xs, ys, hx, _⟩ := h; exact False.elim hx
  | str a =>
    cases y with
    | str b => exact op_add_str pins s σ H xv yv v u _ I rx ry ⟨a, b, px, py, h.1, Po.here (w := .str _) dj rg rfl h.2⟩
    | _ => obtain ⟨xs, ys, hx, _⟩ := h; exact False.elim hx
  | tup xs =>
    cases y with
    | tup ys =>
      obtain ⟨l, vs, rfl, hl, rl⟩ := id px
      obtain ⟨b, zs, rfl, hb, rb⟩ := id py
      refine op_catA pins s σ H _ _ v u _ I rx ry ⟨l, b, vs, zs, rfl, rfl, hl.sq, hb.sq, by rw [rl.length, rb.length]; exact h.1, fun e => ?_, fun _ e => ?_, fun _ _ p hp => new_tup dj rg hp (rl.append rb) h.2⟩
      · have : xs = [] := List.length_eq_zero_iff.mp (by rw [← rl.length, e]; rfl)
        subst this
        exact Po.here dj rg py h.2
      · have : ys = [] := List.length_eq_zero_iff.mp (by rw [← rb.length, e]; rfl)
        subst this
        have h2 : q (.tup (xs ++ [])) G := h.2
        rw [List.append_nil] at h2
        exact Po.here dj rg px h2
    | _ => obtain ⟨xs, ys, hx, _⟩ := h; exact False.elim hx
  | lst xs => cases y <;> exact lists h
  | ref a => cases y <;> exact lists h
  | non => cases y <;> (obtain ⟨xs, ys, hx, _⟩ := h; exact False.elim hx)
  | bl _ => cases y <;> (obtain ⟨xs, ys, hx, _⟩ := h; exact False.elim hx)
  | ty _ => cases y <;> (obtain ⟨xs, ys, hx, _⟩ := h; exact False.elim hx)
  | fz _ => cases y <;> (obtain ⟨xs, ys, hx, _⟩ := h; exact False.elim hx)
theorem o_sub : OpM X (binaryOp .Sub) mSub := by
  intro pins s σ H G F x y xv yv v u q I rx ry dj rg px py h
  cases x <;> cases y <;> first | exact False.elim h | exact OpM.int0 op_sub I rx ry dj rg px py h
theorem o_mod : OpM X (binaryOp .Mod) mMod := by
  intro pins s σ H G F x y xv yv v u q I rx ry dj rg px py h
  cases x <;> cases y <;> first | exact False.elim h | exact OpM.int op_mod I rx ry dj rg px py h.1 h.2
theorem o_fdv : OpM X (binaryOp .FloorDiv) mFdv := by
  intro pins s σ H G F x y xv yv v u q I rx ry dj rg px py h
  cases x <;> cases y <;> first | exact False.elim h | exact OpM.int op_fdivW I rx ry dj rg px py h.1 h.2
theorem o_pow : OpM X (binaryOp .Pow) mPow := by
  intro pins s σ H G F x y xv yv v u q I rx ry dj rg px py h
  cases x <;> cases y <;> first | exact False.elim h | exact OpM.int op_pow I rx ry dj rg px py h.1 h.2
theorem o_mul {own : Bool} : OpM X (binaryOp .Mult) (mMul own) := by
  intro pins s σ H G F x y xv yv v u q I rx ry dj rg px py h
  have lists : ∀ k : Int, yv = .int k → (∃ xs, HdOf G x xs ∧ (-(2 ^ 63) ≤ k ∧ k < 2 ^ 63 ∧ xs.length * k.toNat ≤ sizeLine) ∧ newL own (List.replicate k.toNat xs).flatten G q) → wpAny (model X.prog X.w) X.A (binaryOp .Mult v u) (EP X pins σ (Po X.K F G H q)) X.xe s := by
    rintro k ek ⟨xs, hx, ⟨h1, h2, h3⟩, h⟩
    obtain ⟨l, vs, rfl, hl, rl⟩ := hx.at rg px
    exact op_rep pins s σ H _ _ v u _ I rx ry ⟨l, k, vs, rfl, ek, hl, h1, h2, by rw [rl.length]; exact h3, fun p hp => new_lst dj rg hp (rl.rep _) h⟩
  cases x with
  | int i =>
    cases y with
    | int j =>
      obtain ⟨hc | hc, h⟩ := h
      · exact OpM.int op_mul I rx ry dj rg px py hc h
      · exact OpM.int op_mulW I rx ry dj rg px py hc h
    | _ => exact False.elim h
  | str a =>
    cases y with
    | int k =>
      cases (show xv = .str a from px)
      cases (show yv = .int k from py)
      obtain ⟨t, rfl⟩ := rx
      obtain ⟨t', rfl⟩ := ry
      exact PySem.SB.mul h.1 fun t' k' => ⟨.str _, H, I.tok _, ⟨_, rfl⟩, Po.here (w := .str _) dj rg rfl h.2⟩
    | _ => exact False.elim h
  | tup xs =>
    cases y with
    | int k =>
      obtain ⟨l, vs, rfl, hl, rl⟩ := id px
      obtain ⟨⟨h1, h2, h3, h4⟩, h⟩ := h
      exact op_repT pins s σ H _ _ v u _ I rx ry ⟨l, k, vs, rfl, py, hl.sq, fun e => h1 (List.length_eq_zero_iff.mp (by rw [← rl.length, e]; rfl)), h2, h3, by rw [rl.length]; exact h4, fun p hp => new_tup dj rg hp (rl.rep _) h⟩
    | _ => exact False.elim h
  | lst xs => cases y <;> first | exact False.elim h | exact lists _ py h
  | ref a => cases y <;> first | exact False.elim h | exact lists _ py h
  | non => cases y <;> first | exact False.elim h | (obtain ⟨xs, hx, _⟩ := h; exact False.elim hx)
  | bl _ => cases y <;> first | exact False.elim h | (obtain ⟨xs, hx, _⟩ := h; exact False.elim hx)
  | ty _ => cases y <;> first | exact False.elim h | (obtain ⟨xs, hx, _⟩ := h; exact False.elim hx)
  | fz _ => cases y <;> first | exact False.elim h | (obtain ⟨xs, hx, _⟩ := h; exact False.elim hx)
end

/-! ### comparisons -/
def eqS (x y : D) : Option Bool := match x, y with
  | .int i, .int j => some (decide (i = j))
  | .str a, .str b => some (decide (a = b))
  | .bl a, .bl b => some (decide (a = b))
  | .non, .non => some true
  | .non, .int _ | .int _, .non | .non, .bl _ | .bl _, .non | .non, .str _ | .str _, .non | .int _, .str _ | .str _, .int _ | .bl _, .str _ | .str _, .bl _ => some false
  | _, _ => none
def cmpEq (f : Bool → Bool) : M2 := fun x y G q => match eqS x y with
  | some b => q (.bl (f b)) G
  | none => ∃ x' y', Sees G x x' ∧ Sees G y y' ∧ okD x' = true ∧ okD y' = true ∧ dep x' ≤ 64 ∧ dep y' ≤ 64 ∧ q (.bl (f (eqD x' y'))) G
def mEq : M2 := cmpEq id
def mNe : M2 := cmpEq not
def mLt : M2 := fun x y G q => match x, y with
  | .int i, .int j => q (.bl (decide (i < j))) G
  | _, _ => False
def mLe : M2 := fun x y G q => match x, y with
  | .int i, .int j => q (.bl (decide (i ≤ j))) G
  | _, _ => False
def mGt : M2 := fun x y G q => match x, y with
  | .int i, .int j => q (.bl (decide (j < i))) G
  | _, _ => False
def mGe : M2 := fun x y G q => match x, y with
  | .int i, .int j => q (.bl (decide (j ≤ i))) G
  | _, _ => False
section
variable {X : Cx}
theorem OpM.bl0 {f : Value → Value → Sem Value} {g : Int → Int → Bool} (ho : OpR X f (rI0 fun i j => .bl (g i j))) {i j : Int} {pins : List (Addr × Obj)} {s : Shared} {σ : St} {H : Hp} {G F : Gp} {xv yv : V} {v u : Value} {q : MK}
    (I : Inv X pins σ H s) (rx : RelV xv v) (ry : RelV yv u) (dj : Dj G F) (rg : RG X.K (jn G F) H) (px : xv = .int i) (py : yv = .int j) (h : q (.bl (g i j)) G) : wpAny (model X.prog X.w) X.A (f v u) (EP X pins σ (Po X.K F G H q)) X.xe s :=
  ho pins s σ H xv yv v u _ I rx ry ⟨i, j, px, py, Po.here (w := .bl _) dj rg rfl h⟩
theorem o_lt : OpM X (compareOp .Lt) mLt := by
  intro pins s σ H G F x y xv yv v u q I rx ry dj rg px py h
  cases x <;> cases y <;> first | exact False.elim h | exact OpM.bl0 op_lt I rx ry dj rg px py h
theorem o_le : OpM X (compareOp .LtE) mLe := by
  intro pins s σ H G F x y xv yv v u q I rx ry dj rg px py h
  cases x <;> cases y <;> first | exact False.elim h | exact OpM.bl0 op_le I rx ry dj rg px py h
theorem o_gt : OpM X (compareOp .Gt) mGt := by
  intro pins s σ H G F x y xv yv v u q I rx ry dj rg px py h
  cases x <;> cases y <;> first | exact False.elim h | exact OpM.bl0 op_gt I rx ry dj rg px py h
theorem o_ge : OpM X (compareOp .GtE) mGe := by
  intro pins s σ H G F x y xv yv v u q I rx ry dj rg px py h
  cases x <;> cases y <;> first | exact False.elim h | exact OpM.bl0 op_ge I rx ry dj rg px py h
theorem eqS_ok {K : PySem.W.Frag} {G : Gp} {H : Hp} {x y : D} {xv yv : V} {b : Bool} (px : Rp K G H x xv) (py : Rp K G H y yv) (h : eqS x y = some b) : scal xv yv = true ∧ decide (xv = yv) = b := by
  unfold eqS at h
  split at h <;> (try cases h) <;> (cases px; cases py; refine ⟨rfl, ?_⟩) <;> first | rfl | (simp; done) | (rw [Bool.eq_iff_iff]; simp)
theorem o_eq (hu : X.A.units + 64 < cLine) : OpM X (compareOp .Eq) mEq := by
  intro pins s σ H G F x y xv yv v u q I rx ry dj rg px py h
  unfold mEq cmpEq at h
  cases e : eqS x y with
  | some b =>
    rw [e] at h
    obtain ⟨h1, h2⟩ := eqS_ok px py e
    exact op_eq pins s σ H xv yv v u _ I rx ry ⟨h1, by rw [h2]; exact Po.here (w := .bl b) dj rg rfl h⟩
  | none =>
    rw [e] at h
    obtain ⟨x', y', sx, sy, ox, oy, dx, dy, h⟩ := h
    refine op_eqD hu pins s σ H xv yv v u _ I rx ry ⟨pd x', pd y', sx.dp rg px ox, sy.dp rg py oy, shaped_pd ox dx, shaped_pd oy dy, ?_⟩
    rw [eqv_pd x' y' ox oy]
    exact Po.here (w := .bl _) dj rg rfl h
theorem o_ne (hu : X.A.units + 64 < cLine) : OpM X (compareOp .NotEq) mNe := by
  intro pins s σ H G F x y xv yv v u q I rx ry dj rg px py h
  unfold mNe cmpEq at h
  cases e : eqS x y with
  | some b =>
    rw [e] at h
    obtain ⟨h1, h2⟩ := eqS_ok px py e
    exact op_ne pins s σ H xv yv v u _ I rx ry ⟨h1, by rw [h2]; exact Po.here (w := .bl (!b)) dj rg rfl h⟩
  | none =>
    rw [e] at h
    obtain ⟨x', y', sx, sy, ox, oy, dx, dy, h⟩ := h
    refine op_neD hu pins s σ H xv yv v u _ I rx ry ⟨pd x', pd y', sx.dp rg px ox, sy.dp rg py oy, shaped_pd ox dx, shaped_pd oy dy, ?_⟩
    rw [eqv_pd x' y' ox oy]
    exact Po.here (w := .bl _) dj rg rfl h
/-- is None -/
def isN : D → Bool
  | .non => true
  | _ => false
def mIsN : M2 := fun x y G q => match y with
  | .non => q (.bl (isN x)) G
  | _ => False
def mNotN : M2 := fun x y G q => match y with
  | .non => q (.bl (!isN x)) G
  | _ => False
theorem isN_of {K : PySem.W.Frag} {G : Gp} {H : Hp} {x : D} {xv : V} (px : Rp K G H x xv) : decide (xv = .non) = isN x := by
  cases x with
  | tup xs => obtain ⟨p, vs, rfl, _⟩ := px; rfl
  | lst xs => obtain ⟨p, vs, rfl, _⟩ := px; rfl
  | fz xs => obtain ⟨p, vs, rfl, _⟩ := px; rfl
  | _ => cases px; rfl
theorem o_isN : OpM X (compareOp .Is) mIsN := by
  intro pins s σ H G F x y xv yv v u q I rx ry dj rg px py h
  cases y with
  | non => exact op_isN pins s σ H xv yv v u _ I rx ry ⟨py, by rw [isN_of px]; exact Po.here (w := .bl _) dj rg rfl h⟩
  | _ => exact False.elim h
theorem o_notN : OpM X (compareOp .IsNot) mNotN := by
  intro pins s σ H G F x y xv yv v u q I rx ry dj rg px py h
  cases y with
  | non => exact op_notN pins s σ H xv yv v u _ I rx ry ⟨py, by rw [isN_of px]; exact Po.here (w := .bl _) dj rg rfl h⟩
  | _ => exact False.elim h
end
end ML

set_option maxRecDepth 100000
namespace ML
open PySem PySem.Spec L2
open PyProof.Rows hiding St

/-! ### truth -/
def mTru (x : D) (G : Gp) (q : Bool → Gp → Prop) : Prop := match x with
  | .non => q false G
  | .bl b => q b G
  | .int i => q (i != 0) G
  | .str y => y.length ≤ sizeLine ∧ q ((y.length : Int) != 0) G
  | .tup xs => q (!xs.isEmpty) G
  | .lst xs => q (!xs.isEmpty) G
  | .fz xs => q (!xs.isEmpty) G
  | .ref a => (∃ xs, G a = some (.lst xs) ∧ q (!xs.isEmpty) G) ∨ ∃ kvs, G a = some (.dic kvs) ∧ q (!kvs.isEmpty) G
  | .ty _ => False
theorem RpL.empty {K : PySem.W.Frag} {G : Gp} {H : Hp} {ws : List D} {vs : List V} (h : RpL K G H ws vs) : vs.isEmpty = ws.isEmpty := by
  have := h.length
  cases ws with
  | nil => cases vs with
    | nil => rfl
    | cons _ _ => simp at this
  | cons _ _ => cases vs with
    | nil => simp at this
    | cons _ _ => rfl
theorem RKv.keys {K : PySem.W.Frag} {G : Gp} {H : Hp} : ∀ {ws : List (Key × D)} {vs : List (Key × V)}, RKv K G H ws vs → vs.map (·.1) = ws.map (·.1)
  | [], _, h => by cases (show _ = _ from h); rfl
  | (n, w) :: r, _, ⟨v, t, e, _, h⟩ => by subst e; simp [RKv.keys h]
theorem mTru.at {K : PySem.W.Frag} {F G : Gp} {H : Hp} {x : D} {v : V} {q : Bool → Gp → Prop} (h : mTru x G q) (rg : RG K (jn G F) H) (r : Rp K (jn G F) H x v) : ∃ k, TruV K v H k ∧ q k G := by
  cases x with
  | non => cases r; exact ⟨false, rfl, h⟩
  | bl b => cases r; exact ⟨b, rfl, h⟩
  | int i => cases r; exact ⟨_, rfl, h⟩
  | str y => cases r; exact ⟨_, ⟨h.1, rfl⟩, h.2⟩
  | tup xs => obtain ⟨p, vs, rfl, a, rl⟩ := r; exact ⟨_, .inr (.inl ⟨vs, a.sq, rfl⟩), by rw [rl.empty]; exact h⟩
  | lst xs => obtain ⟨p, vs, rfl, a, rl⟩ := r; exact ⟨_, .inl ⟨vs, a.sq, rfl⟩, by rw [rl.empty]; exact h⟩
  | fz xs => obtain ⟨p, vs, rfl, a, rl⟩ := r; exact ⟨_, .inl ⟨vs, a.sq, rfl⟩, by rw [rl.empty]; exact h⟩
  | ref a =>
    cases (show v = .ref a from r)
    rcases h with ⟨xs, g, h⟩ | ⟨kvs, g, h⟩
    · obtain ⟨vs, hv, rl⟩ := rg a _ (jn_some g)
      exact ⟨_, .inl ⟨vs, .inl (.inl hv), rfl⟩, by rw [rl.empty]; exact h⟩
    · obtain ⟨vs, hv, rl⟩ := rg a _ (jn_some g)
      refine ⟨_, .inr (.inr ⟨vs, hv, rfl⟩), ?_⟩
      have e := congrArg List.isEmpty rl.keys
      rw [List.isEmpty_map, List.isEmpty_map] at e
      rw [e]; exact h
  | ty _ => exact False.elim h
def mAndT (t u : TTm) : TTm := fun τ G q => t τ G fun c G1 => match c with | true => u τ G1 q | false => q false G1
def mOrT (t u : TTm) : TTm := fun τ G q => t τ G fun c G1 => match c with | true => q true G1 | false => u τ G1 q
def mNotT (t : TTm) : TTm := fun τ G q => t τ G fun c G1 => q (!c) G1
def mTruT (Ta : TEm) : TTm := fun τ G q => Ta τ G fun x G1 => mTru x G1 q
def mOr (Ta Tb : TEm) : TEm := fun τ G q => Ta τ G fun x G1 => mTru x G1 fun k G2 => match k with | true => q x G2 | false => Tb τ G2 q
def mAnd (Ta Tb : TEm) : TEm := fun τ G q => Ta τ G fun x G1 => mTru x G1 fun k G2 => match k with | true => Tb τ G2 q | false => q x G2
def mNot (Ta : TEm) : TEm := fun τ G q => Ta τ G fun x G1 => mTru x G1 fun k G2 => q (.bl (!k)) G2
def mIf (t : TTm) (Ta Tb : TEm) : TEm := fun τ G q => t τ G fun c G1 => match c with | true => Ta τ G1 q | false => Tb τ G1 q
/-- the truth of a value changes nothing -/
theorem mTru.mono {x : D} {G : Gp} {q q' : Bool → Gp → Prop} (h : mTru x G q) (k : ∀ b, q b G → q' b G) : mTru x G q' := by
  cases x with
  | str y => exact ⟨h.1, k _ h.2⟩
  | ref a => rcases h with ⟨xs, g, h⟩ | ⟨kvs, g, h⟩; (exact .inl ⟨xs, g, k _ h⟩); exact .inr ⟨kvs, g, k _ h⟩
  | ty _ => exact h
  | _ => exact k _ h
end ML
namespace ML
open PySem PySem.Spec L2
open PyProof.Rows hiding St
section
variable {B : Bs} {X : Cx} {a b c e : Expr} {es rest : List Expr} {pos : Pos} {Ta Tb Tc Te : TEm} {Tl : TAm} {t u : TTm}
theorem mt_truth (ha : ME B X a Ta) (he : ∀ whole, isTrue a X.env whole = (do let v ← whole; standAt a.pos; holding [v] (truthy v)) := by intro _; rfl) : MT B X a (mTruT Ta) :=
  mt_of (pt_truth ha he) fun σ H τ G F q dj rs rg h => ⟨τ, G, F, _, dj, rs, rg, h, fun v H1 ⟨w, G1, d1, k1, rg1, r1, h1⟩ => by
    obtain ⟨k, tv, h2⟩ := h1.at rg1 r1
    exact ⟨k, tv, G1, d1, k1, rg1, h2⟩⟩
def MW (B : Bs) (X : Cx) (e : Expr) (T : TTm) : Prop := PW X e (liftT B X.K T)
theorem mw_of {e : Expr} {t : TT} {T : TTm} (h : PW X e t) (k : ∀ σ H τ G F q, Dj G F → RS X.K (jn G F) H τ σ → RB B X.K (jn G F) H → T τ G q → t σ H (PoT X.K F G H q)) : MW B X e T :=
  ⟨fun wh pins s σ H Q I ⟨τ, G, F, q, dj, rs, rg, ht, c⟩ => thn (h.run wh pins s σ H _ I (k σ H τ G F q dj rs rg ht)) fun u s' z => TP.to z c⟩
theorem MW.mt (h : MW B X e t) : MT B X e t := PW.pt h
theorem mw_and1 (ha : MT B X a t) : MW B X (.BoolOp .And [a] pos) t := pw_and1 ha
theorem mw_or1 (ha : MT B X a t) : MW B X (.BoolOp .Or [a] pos) t := pw_or1 ha
theorem mw_and (ha : MT B X a t) (hb : MW B X (.BoolOp .And (b :: rest) pos) u) : MW B X (.BoolOp .And (a :: b :: rest) pos) (mAndT t u) :=
  mw_of (pw_and ha hb) fun σ H τ G F q dj rs rg h => ⟨τ, G, F, _, dj, rs, rg, h, fun c H1 ⟨G1, d1, k1, rg1, h1⟩ => by
    cases c with
    | true =>
      rw [if_pos rfl]
      exact ⟨τ, G1, F, _, d1, rs.kp k1, rg.go k1 rg1, h1, fun v H2 z => z.behind k1⟩
    | false =>
      rw [if_neg Bool.false_ne_true]
      exact ⟨G1, d1, k1, rg1, h1⟩⟩
theorem mw_or (ha : MT B X a t) (hb : MW B X (.BoolOp .Or (b :: rest) pos) u) : MW B X (.BoolOp .Or (a :: b :: rest) pos) (mOrT t u) :=
  mw_of (pw_or ha hb) fun σ H τ G F q dj rs rg h => ⟨τ, G, F, _, dj, rs, rg, h, fun c H1 ⟨G1, d1, k1, rg1, h1⟩ => by
    cases c with
    | false =>
      rw [if_neg Bool.false_ne_true]
      exact ⟨τ, G1, F, _, d1, rs.kp k1, rg.go k1 rg1, h1, fun v H2 z => z.behind k1⟩
    | true =>
      rw [if_pos rfl]
      exact ⟨G1, d1, k1, rg1, h1⟩⟩
theorem mt_not (ha : MT B X a t) : MT B X (.UnaryOp .Not a pos) (mNotT t) :=
  mt_of (pt_not ha) fun σ H τ G F q dj rs rg h => ⟨τ, G, F, _, dj, rs, rg, h, fun c H1 z => z⟩
theorem m_orE (ha : ME B X a Ta) (hb : ME B X (.BoolOp .Or (b :: rest) pos) Tb) : ME B X (.BoolOp .Or (a :: b :: rest) pos) (mOr Ta Tb) :=
  me_of (pe_orT ha hb) fun σ H τ G F q dj rs rg h => ⟨τ, G, F, _, dj, rs, rg, h, fun v H1 ⟨w, G1, d1, k1, rg1, r1, h1⟩ => by
    obtain ⟨k, tv, h2⟩ := h1.at rg1 r1
    refine ⟨k, tv, ?_⟩
    cases k with
    | true =>
      rw [if_pos rfl]
      exact ⟨w, G1, d1, k1, rg1, r1, h2⟩
    | false =>
      rw [if_neg Bool.false_ne_true]
      exact ⟨τ, G1, F, _, d1, rs.kp k1, rg.go k1 rg1, h2, fun v H2 z => z.behind k1⟩⟩
theorem m_andE (ha : ME B X a Ta) (hb : ME B X (.BoolOp .And (b :: rest) pos) Tb) : ME B X (.BoolOp .And (a :: b :: rest) pos) (mAnd Ta Tb) :=
  me_of (pe_andT ha hb) fun σ H τ G F q dj rs rg h => ⟨τ, G, F, _, dj, rs, rg, h, fun v H1 ⟨w, G1, d1, k1, rg1, r1, h1⟩ => by
    obtain ⟨k, tv, h2⟩ := h1.at rg1 r1
    refine ⟨k, tv, ?_⟩
    cases k with
    | false =>
      rw [if_neg Bool.false_ne_true]
      exact ⟨w, G1, d1, k1, rg1, r1, h2⟩
    | true =>
      rw [if_pos rfl]
      exact ⟨τ, G1, F, _, d1, rs.kp k1, rg.go k1 rg1, h2, fun v H2 z => z.behind k1⟩⟩
theorem m_one {op} (h : ME B X a Ta) : ME B X (.BoolOp op [a] pos) Ta := pe_one h
theorem m_not (ha : ME B X a Ta) : ME B X (.UnaryOp .Not a pos) (mNot Ta) :=
  me_of (pe_notT ha) fun σ H τ G F q dj rs rg h => ⟨τ, G, F, _, dj, rs, rg, h, fun v H1 ⟨w, G1, d1, k1, rg1, r1, h1⟩ => by
    obtain ⟨k, tv, h2⟩ := h1.at rg1 r1
    exact ⟨k, tv, .bl (!k), G1, d1, k1, rg1, rfl, h2⟩⟩
theorem m_ifE (hc : MT B X c t) (ha : ME B X a Ta) (hb : ME B X b Tb) : ME B X (.IfExp c a b pos) (mIf t Ta Tb) :=
  me_of (pe_ifExp hc ha hb) fun σ H τ G F q dj rs rg h => ⟨τ, G, F, _, dj, rs, rg, h, fun c H1 ⟨G1, d1, k1, rg1, h1⟩ => by
    cases c with
    | true =>
      rw [if_pos rfl]
      exact ⟨τ, G1, F, _, d1, rs.kp k1, rg.go k1 rg1, h1, fun v H2 z => z.behind k1⟩
    | false =>
      rw [if_neg Bool.false_ne_true]
      exact ⟨τ, G1, F, _, d1, rs.kp k1, rg.go k1 rg1, h1, fun v H2 z => z.behind k1⟩⟩
/-- -e -/
def mNeg (Ta : TEm) : TEm := fun τ G q => Ta τ G fun x G1 => match x with | .int i => q (.int (-i)) G1 | _ => False
theorem m_neg (ha : ME B X a Ta) : ME B X (.UnaryOp .USub a pos) (mNeg Ta) :=
  me_of (pe_un un_neg ha) fun σ H τ G F q dj rs rg h => ⟨τ, G, F, _, dj, rs, rg, h, fun v H1 ⟨w, G1, d1, k1, rg1, r1, h1⟩ => by
    cases w with
    | int i => exact ⟨i, r1, .int (-i), G1, d1, k1, rg1, rfl, h1⟩
    | _ => exact False.elim h1⟩

/-! ### chains -/
def mChain (m m' : M2) (Ta Tb Tc : TEm) : TEm := fun τ G q => Ta τ G fun x G1 => Tb τ G1 fun y G2 => m x y G2 fun z G3 => match z with
  | .bl k => (match k with | true => Tc τ G3 fun w G4 => m' y w G4 q | false => q (.bl false) G3)
  | _ => False
theorem chain_lift {op op' : CmpOp} {m m' : M2} {σ : St} {H : Hp} {τ : Sl} {G F : Gp} {q : MK} (dj : Dj G F) (rs : RS X.K (jn G F) H τ σ) (rg : RB B X.K (jn G F) H) (h : mChain m m' Ta Tb Tc τ G q) :
    tChain (ROp X m) (ROp X m') (liftE B X.K Ta) (liftE B X.K Tb) (liftE B X.K Tc) σ H (Po X.K F G H q) :=
  ⟨τ, G, F, _, dj, rs, rg, h, fun v H1 ⟨x, G1, d1, k1, rg1, r1, h1⟩ => ⟨τ, G1, F, _, d1, rs.kp k1, rg.go k1 rg1, h1, fun v2 H2 ⟨y, G2, d2, k2, rg2, r2, h2⟩ =>
    ⟨G2, F, x, y, _, d2, rg2, r1.kp k2, r2, h2, fun z H3 ⟨zw, G3, d3, k3, rg3, r3, h3⟩ => by
      cases zw with
      | bl k =>
        refine ⟨k, r3, ?_⟩
        cases k with
        | true =>
          rw [if_pos rfl]
          refine ⟨τ, G3, F, _, d3, rs.kp ((k1.trans k2).trans k3), rg.go ((k1.trans k2).trans k3) rg3, h3, fun v4 H4 ⟨w, G4, d4, k4, rg4, r4, h4⟩ => ?_⟩
          exact ⟨G4, F, y, w, q, d4, rg4, (r2.kp k3).kp k4, r4, h4, fun v5 H5 z5 => z5.behind (((k1.trans k2).trans k3).trans k4)⟩
        | false =>
          rw [if_neg Bool.false_ne_true]
          exact ⟨.bl false, G3, d3, (k1.trans k2).trans k3, rg3, rfl, h3⟩
      | _ => exact False.elim h3⟩⟩⟩
theorem m_chain {op op' : CmpOp} {m m' : M2} (ho : OpM X (compareOp op) m) (ho' : OpM X (compareOp op') m') (ha : ME B X a Ta) (hb : ME B X b Tb) (hc : ME B X c Tc)
    (hm : lastMarks [op, op'] [b, c] = false := by with_unfolding_all rfl) : ME B X (.Compare a [op, op'] [b, c] pos) (mChain m m' Ta Tb Tc) :=
  me_of (pe_chain (opR_of ho) (opR_of ho') ha hb hc hm) fun σ H τ G F q dj rs rg h => chain_lift (op := op) (op' := op') dj rs rg h
theorem mt_chain {op op' : CmpOp} {m m' : M2} (ho : OpM X (compareOp op) m) (ho' : OpM X (compareOp op') m') (ha : ME B X a Ta) (hb : ME B X b Tb) (hc : ME B X c Tc)
    (hm : lastMarks [op, op'] [b, c] = false := by with_unfolding_all rfl) : MT B X (.Compare a [op, op'] [b, c] pos) (mTest (mChain m m' Ta Tb Tc)) :=
  mt_of (pt_chain (opR_of ho) (opR_of ho') ha hb hc hm) fun σ H τ G F q dj rs rg h => by
    have h := chain_lift (op := op) (op' := op') dj rs rg h
    refine ⟨τ, G, F, _, dj, rs, rg, ‹mTest (mChain m m' Ta Tb Tc) τ G q›, fun v H1 ⟨x, G1, d1, k1, rg1, r1, h1⟩ => ⟨τ, G1, F, _, d1, rs.kp k1, rg.go k1 rg1, h1, fun v2 H2 ⟨y, G2, d2, k2, rg2, r2, h2⟩ =>
    ⟨G2, F, x, y, _, d2, rg2, r1.kp k2, r2, h2, fun z H3 ⟨zw, G3, d3, k3, rg3, r3, h3⟩ => by
      cases zw with
      | bl k =>
        refine ⟨k, r3, ?_⟩
        cases k with
        | true =>
          rw [if_pos rfl]
          refine ⟨τ, G3, F, _, d3, rs.kp ((k1.trans k2).trans k3), rg.go ((k1.trans k2).trans k3) rg3, h3, fun v4 H4 ⟨w, G4, d4, k4, rg4, r4, h4⟩ => ?_⟩
          refine ⟨G4, F, y, w, _, d4, rg4, (r2.kp k3).kp k4, r4, h4, fun v5 H5 z5 => ?_⟩
          obtain ⟨k, e, z⟩ := PoT.of_bl z5
          exact ⟨k, e, z.behind (((k1.trans k2).trans k3).trans k4)⟩
        | false =>
          rw [if_neg Bool.false_ne_true]
          exact ⟨false, rfl, G3, d3, (k1.trans k2).trans k3, rg3, h3⟩
      | _ => exact False.elim h3⟩⟩⟩

/-! ### displays, arguments -/
def mNil : TAm := fun _ G q => q [] G
def mCons (Ta : TEm) (Tl : TAm) : TAm := fun τ G q => Ta τ G fun x G1 => Tl τ G1 fun xs G2 => q (x :: xs) G2
theorem ma_nil : MA B X [] mNil := ma_of pa_nil fun σ H τ G F q dj rs rg h => ⟨[], G, dj, Kp.refl _ _, rg.rg, rfl, h⟩
theorem ma_cons (ha : ME B X e Te) (hr : MA B X es Tl) (hs : starEach (e :: es) X.env = (false, eval e X.env) :: starEach es X.env := by rfl) : MA B X (e :: es) (mCons Te Tl) :=
  ma_of (pa_cons ha hr hs) fun σ H τ G F q dj rs rg h => ⟨τ, G, F, _, dj, rs, rg, h, fun v H1 ⟨x, G1, d1, k1, rg1, r1, h1⟩ => ⟨τ, G1, F, _, d1, rs.kp k1, rg.go k1 rg1, h1, fun v2 H2 ⟨ys, G2, d2, k2, rg2, r2, h2⟩ =>
    ⟨x :: ys, G2, d2, k1.trans k2, rg2, .cons (r1.kp k2) r2, h2⟩⟩⟩
def mTup (Tl : TAm) : TEm := fun τ G q => Tl τ G fun xs G1 => xs.length ≤ sizeLine ∧ q (.tup xs) G1
def mLst (own : Bool) (Tl : TAm) : TEm := fun τ G q => Tl τ G fun xs G1 => xs.length ≤ sizeLine ∧ newL own xs G1 q
theorem m_tup {x1} (h : MA B X es Tl) : ME B X (.Tuple es x1 pos) (mTup Tl) :=
  me_of (pe_tup h) fun σ H τ G F q dj rs rg h => ⟨τ, G, F, _, dj, rs, rg, h, fun vs H1 ⟨ws, G1, d1, k1, rg1, r1, h1⟩ => ⟨by rw [r1.length]; exact h1.1, fun p hp => (new_tup d1 rg1 hp r1 h1.2).behind k1⟩⟩
theorem m_lst (own : Bool) (h : MA B X es Tl) : ME B X (.List es pos) (mLst own Tl) :=
  me_of (pe_lst h) fun σ H τ G F q dj rs rg h => ⟨τ, G, F, _, dj, rs, rg, h, fun vs H1 ⟨ws, G1, d1, k1, rg1, r1, h1⟩ => ⟨by rw [r1.length]; exact h1.1, fun p hp => (new_lst d1 rg1 hp r1 h1.2).behind k1⟩⟩

/-! ### subscripts -/
def mIx : M2 := fun x y G q => match x, y with
  | .tup xs, .int i => ∃ w, atI xs i = some w ∧ q w G
  | .str z, .int i => z.length ≤ sizeLine ∧ ∃ c, atI z.cps.toList i = some c ∧ q (.str ⟨#[c]⟩) G
  | x, .int i => ∃ xs w, LstOf G x xs ∧ atI xs i = some w ∧ q w G
  | _, _ => False
theorem RpL.atI {K : PySem.W.Frag} {G : Gp} {H : Hp} {ws : List D} {vs : List V} (r : RpL K G H ws vs) {i : Int} {w : D} (h : L2.atI ws i = some w) : ∃ v, L2.atI vs i = some v ∧ Rp K G H w v := by
  unfold L2.atI at h ⊢
  rw [r.length]
  cases e : ixN ws.length i with
  | none => rw [e] at h; cases h
  | some j =>
    rw [e] at h
    obtain ⟨v, h1, h2⟩ := r.get h
    exact ⟨v, h1, h2⟩
theorem ix_ok {K : PySem.W.Frag} {F G : Gp} {H : Hp} {x y : D} {xv yv : V} {q : MK} (dj : Dj G F) (rg : RG K (jn G F) H) (px : Rp K (jn G F) H x xv) (py : Rp K (jn G F) H y yv) (h : mIx x y G q) : rIx K xv yv H (Po K F G H q) := by
  have lists : ∀ i : Int, yv = .int i → (∃ xs w, LstOf G x xs ∧ atI xs i = some w ∧ q w G) → rIx K xv yv H (Po K F G H q) := by
    rintro i ei ⟨xs, w, hx, ha, h⟩
    obtain ⟨p, vs, rfl, hs, rl⟩ := hx.at rg px
    obtain ⟨v, hv, rv⟩ := rl.atI ha
    exact .inl ⟨p, vs, i, v, rfl, ei, hs, hv, Po.here dj rg rv h⟩
  cases x with
  | tup xs =>
    cases y with
    | int i =>
      obtain ⟨w, ha, h⟩ := h
      obtain ⟨p, vs, rfl, hs, rl⟩ := px
      obtain ⟨v, hv, rv⟩ := rl.atI ha
      exact .inr (.inl ⟨p, vs, i, v, rfl, py, hs.sq, hv, Po.here dj rg rv h⟩)
    | _ => exact False.elim h
  | str z =>
    cases y with
    | int i =>
      obtain ⟨hz, c, ha, h⟩ := h
      exact .inr (.inr ⟨z, i, c, px, py, hz, ha, Po.here (w := .str _) dj rg rfl h⟩)
    | _ => exact False.elim h
  | lst xs => cases y <;> first | exact False.elim h | exact lists _ py h
  | fz xs => cases y <;> first | exact False.elim h | exact lists _ py h
  | ref xs => cases y <;> first | exact False.elim h | exact lists _ py h
  | _ => cases y <;> first | exact False.elim h | (obtain ⟨_, _, hx, _⟩ := h; exact False.elim hx)
theorem m_ix (ha : ME B X a Ta) (hb : ME B X b Tb) (hs : PlainIx b := by exact fun _ _ => rfl) : ME B X (.Subscript a b pos) (mOp mIx Ta Tb) :=
  me_of (pe_ix ix_seq ha hb hs) fun σ H τ G F q dj rs rg h => ⟨τ, G, F, _, dj, rs, rg, h, fun v H1 ⟨x, G1, d1, k1, rg1, r1, h1⟩ => ⟨τ, G1, F, _, d1, rs.kp k1, rg.go k1 rg1, h1, fun v2 H2 ⟨y, G2, d2, k2, rg2, r2, h2⟩ => by
    have z := ix_ok d2 rg2 (r1.kp k2) r2 h2
    rcases z with ⟨p, xs, i, w, e1, e2, e3, e4, z⟩ | ⟨p, xs, i, w, e1, e2, e3, e4, z⟩ | ⟨zz, i, c, e1, e2, e3, e4, z⟩
    · exact .inl ⟨p, xs, i, w, e1, e2, e3, e4, z.behind (k1.trans k2)⟩
    · exact .inr (.inl ⟨p, xs, i, w, e1, e2, e3, e4, z.behind (k1.trans k2)⟩)
    · exact .inr (.inr ⟨zz, i, c, e1, e2, e3, e4, z.behind (k1.trans k2)⟩)⟩⟩
/-- slices -/
abbrev TOm := Sl → Gp → (Option Int → Gp → Prop) → Prop
def PoO (K : PySem.W.Frag) (F G : Gp) (H : Hp) (q : Option Int → Gp → Prop) (o : Option Int) (H' : Hp) : Prop := ∃ G', Dj G' F ∧ Kp (jn G F) H (jn G' F) H' ∧ RG K (jn G' F) H' ∧ q o G'
def liftO (B : Bs) (K : PySem.W.Frag) (T : TOm) : TO := fun σ H Q => ∃ τ G F q, Dj G F ∧ RS K (jn G F) H τ σ ∧ RB B K (jn G F) H ∧ T τ G q ∧ ∀ o H', PoO K F G H q o H' → Q o H'
def MO' (B : Bs) (X : Cx) (e : Option Expr) (T : TOm) : Prop := PO X e (liftO B X.K T)
def mNoPart : TOm := fun _ G q => q none G
def mPart (Ta : TEm) : TOm := fun τ G q => Ta τ G fun x G1 => match x with | .int i => q (some i) G1 | _ => False
theorem po_mono {e : Option Expr} {t t' : TO} (h : PO X e t) (k : ∀ σ H Q, t' σ H Q → t σ H Q) : PO X e t' := ⟨fun pins s σ H Q I q => h.run pins s σ H Q I (k _ _ _ q)⟩
theorem mo_none : MO' B X none mNoPart := po_mono po_none fun σ H Q ⟨τ, G, F, q, dj, rs, rg, h, c⟩ => c none H ⟨G, dj, Kp.refl _ _, rg.rg, h⟩
theorem mo_some (h : ME B X e Te) : MO' B X (some e) (mPart Te) := po_mono (po_some h) fun σ H Q ⟨τ, G, F, q, dj, rs, rg, h, c⟩ => ⟨τ, G, F, _, dj, rs, rg, h, fun v H1 ⟨x, G1, d1, k1, rg1, r1, h1⟩ => by
    cases x with
    | int i => exact ⟨i, r1, c _ _ ⟨G1, d1, k1, rg1, h1⟩⟩
    | _ => exact False.elim h1⟩
def cutD (xs : List D) (lo hi : Option Int) : List D := (xs.drop (HT.sIx xs.length 0 lo)).take (HT.sIx xs.length xs.length hi - HT.sIx xs.length 0 lo)
def mCut (own : Bool) (x : D) (lo hi : Option Int) (G : Gp) (q : MK) : Prop := match x with
  | .str z => z.length ≤ sizeLine ∧ q (.str (cutS z lo hi)) G
  | .tup xs => q (.tup (cutD xs lo hi)) G
  | x => ∃ xs, LstOf G x xs ∧ newL own (cutD xs lo hi) G q
def mSl (own : Bool) (Ta : TEm) (Tl Th : TOm) : TEm := fun τ G q => Ta τ G fun x G1 => Tl τ G1 fun lo G2 => Th τ G2 fun hi G3 => mCut own x lo hi G3 q
theorem RpL.cut {K : PySem.W.Frag} {G : Gp} {H : Hp} {ws : List D} {vs : List V} (r : RpL K G H ws vs) (lo hi : Option Int) : RpL K G H (cutD ws lo hi) (cutV vs lo hi) := by
  unfold cutD cutV
  rw [r.length]
  exact (r.drop _).take _
def rSlAny (K : PySem.W.Frag) : V → Option Int → Option Int → Hp → VK → Prop := fun x lo hi H Q => rSlL K x lo hi H Q ∨ rSlA K x lo hi H Q ∨ rSlS x lo hi H Q
theorem sl_any : SlR X (rSlAny X.K) := sl_list.or (sl_tupA.or sl_str)
theorem cut_ok {K : PySem.W.Frag} {F G : Gp} {H : Hp} {x : D} {xv : V} {lo hi : Option Int} {own : Bool} {q : MK} {Q : VK} (dj : Dj G F) (rg : RG K (jn G F) H) (px : Rp K (jn G F) H x xv) (h : mCut own x lo hi G q) (k : ∀ v H', Po K F G H q v H' → Q v H') : rSlAny K xv lo hi H Q := by
  have lists : (∃ xs, LstOf G x xs ∧ newL own (cutD xs lo hi) G q) → rSlAny K xv lo hi H Q := by
    rintro ⟨xs, hx, h⟩
    obtain ⟨p, vs, rfl, hs, rl⟩ := hx.at rg px
    exact .inl ⟨p, vs, rfl, hs, fun r hr => k _ _ (new_lst dj rg hr (rl.cut lo hi) h)⟩
  cases x with
  | str z => exact .inr (.inr ⟨z, px, h.1, k _ _ (Po.here (w := .str _) dj rg rfl h.2)⟩)
  | tup xs =>
    obtain ⟨p, vs, rfl, hs, rl⟩ := id px
    refine .inr (.inl ⟨p, vs, rfl, hs.sq, fun e => k _ _ (Po.here (w := .tup (cutD xs lo hi)) dj rg ?_ h), fun _ r hr => k _ _ (new_tup dj rg hr (rl.cut lo hi) h)⟩)
    have e1 : cutD xs lo hi = xs := by
      rw [rl.length] at e
      unfold cutD
      rw [e.1, e.2, Nat.sub_zero, List.drop_zero, List.take_length]
    rw [e1]
    exact px
  | lst xs => exact lists h
  | fz xs => exact lists h
  | ref xs => exact lists h
  | _ => obtain ⟨_, hx, _⟩ := h; exact False.elim hx
theorem m_sl {lo hi : Option Expr} {Tl Th : TOm} {p2 : Pos} (own : Bool) (he : ME B X e Te) (hl : MO' B X lo Tl) (hu : MO' B X hi Th) : ME B X (.Subscript e (.Slice lo hi none p2) pos) (mSl own Te Tl Th) :=
  me_of (pe_slice sl_any he hl hu) fun σ H τ G F q dj rs rg h => ⟨τ, G, F, _, dj, rs, rg, h, fun v H1 ⟨x, G1, d1, k1, rg1, r1, h1⟩ => ⟨τ, G1, F, _, d1, rs.kp k1, rg.go k1 rg1, h1, fun o H2 ⟨G2, d2, k2, rg2, h2⟩ =>
    ⟨τ, G2, F, _, d2, (rs.kp k1).kp k2, (rg.go k1 rg1).go k2 rg2, h2, fun o2 H3 ⟨G3, d3, k3, rg3, h3⟩ => cut_ok d3 rg3 ((r1.kp k2).kp k3) h3 fun v H' z => z.behind ((k1.trans k2).trans k3)⟩⟩⟩
end
end ML

set_option maxRecDepth 100000
namespace ML
open PySem PySem.Spec L2
open PyProof.Rows hiding St

/-! ### statements -/
structure Em where
  nx : Sl → Gp → Prop
  rt : MK
  bk : Sl → Gp → Prop := fun _ _ => False
  ct : Sl → Gp → Prop := fun _ _ => False
abbrev TSm := Em → Sl → Gp → Prop
def PoS (K : PySem.W.Frag) (F G : Gp) (H : Hp) (q : Sl → Gp → Prop) (σ' : St) (H' : Hp) : Prop := ∃ τ' G', Dj G' F ∧ Kp (jn G F) H (jn G' F) H' ∧ RG K (jn G' F) H' ∧ RS K (jn G' F) H' τ' σ' ∧ q τ' G'
def liftD (K : PySem.W.Frag) (F G : Gp) (H : Hp) (d : Em) : Ends := { nx := PoS K F G H d.nx, rt := Po K F G H d.rt, bk := PoS K F G H d.bk, ct := PoS K F G H d.ct }
structure EndsLe (D D' : Ends) : Prop where
  nx : ∀ σ H, D.nx σ H → D'.nx σ H
  rt : ∀ v H, D.rt v H → D'.rt v H
  bk : ∀ σ H, D.bk σ H → D'.bk σ H
  ct : ∀ σ H, D.ct σ H → D'.ct σ H
theorem EndsLe.refl (D : Ends) : EndsLe D D := ⟨fun _ _ h => h, fun _ _ h => h, fun _ _ h => h, fun _ _ h => h⟩
def liftS (B : Bs) (K : PySem.W.Frag) (T : TSm) : TS := fun D σ H => ∃ τ G F d, Dj G F ∧ RS K (jn G F) H τ σ ∧ RB B K (jn G F) H ∧ T d τ G ∧ EndsLe (liftD K F G H d) D
def MS (B : Bs) (X : Cx) (st : Stmt) (T : TSm) : Prop := PS X st (liftS B X.K T)
def MSs (B : Bs) (X : Cx) (sts : List Stmt) (T : TSm) : Prop := PSs X sts (liftS B X.K T)
theorem SP.to {X : Cx} {pins : List (Addr × Obj)} {D D' : Ends} {f : Flow} {s : Shared} (h : SP X pins D f s) (k : EndsLe D D') : SP X pins D' f s := by
  cases f with
  | next => obtain ⟨σ, H, I, q⟩ := h; exact ⟨σ, H, I, k.nx _ _ q⟩
  | brk => obtain ⟨σ, H, I, q⟩ := h; exact ⟨σ, H, I, k.bk _ _ q⟩
  | cont => obtain ⟨σ, H, I, q⟩ := h; exact ⟨σ, H, I, k.ct _ _ q⟩
  | ret u => obtain ⟨v, σ, H, I, r, q⟩ := h; exact ⟨v, σ, H, I, r, k.rt _ _ q⟩
theorem PoS.behind {K : PySem.W.Frag} {F G G1 : Gp} {H H1 : Hp} {q : Sl → Gp → Prop} {σ : St} {H' : Hp} (k : Kp (jn G F) H (jn G1 F) H1) (h : PoS K F G1 H1 q σ H') : PoS K F G H q σ H' :=
  let ⟨t, G', d, k', a, b, c⟩ := h; ⟨t, G', d, k.trans k', a, b, c⟩
theorem liftD.behind {K : PySem.W.Frag} {F G G1 : Gp} {H H1 : Hp} {d : Em} {D : Ends} (k : Kp (jn G F) H (jn G1 F) H1) (h : EndsLe (liftD K F G H d) D) : EndsLe (liftD K F G1 H1 d) D :=
  ⟨fun _ _ z => h.nx _ _ (z.behind k), fun _ _ z => h.rt _ _ (z.behind k), fun _ _ z => h.bk _ _ (z.behind k), fun _ _ z => h.ct _ _ (z.behind k)⟩
section
variable {B : Bs} {X : Cx} {st : Stmt} {rest sts : List Stmt} {T U : TSm} {e : Expr} {Te : TEm} {pos : Pos}
theorem ms_of {t : TS} (h : PS X st t) (k : ∀ σ H τ G F d, Dj G F → RS X.K (jn G F) H τ σ → RB B X.K (jn G F) H → T d τ G → t (liftD X.K F G H d) σ H) : MS B X st T :=
  ⟨fun pins s σ H D I ⟨τ, G, F, d, dj, rs, rg, ht, c⟩ => thn (h.run pins s σ H _ I (k σ H τ G F d dj rs rg ht)) fun u s' z => SP.to z c⟩
theorem mss_of {t : TS} (h : PSs X sts t) (k : ∀ σ H τ G F d, Dj G F → RS X.K (jn G F) H τ σ → RB B X.K (jn G F) H → T d τ G → t (liftD X.K F G H d) σ H) : MSs B X sts T :=
  ⟨fun pins s σ H D I ⟨τ, G, F, d, dj, rs, rg, ht, c⟩ => thn (h.run pins s σ H _ I (k σ H τ G F d dj rs rg ht)) fun u s' z => SP.to z c⟩
theorem PoS.here {K : PySem.W.Frag} {F G : Gp} {H : Hp} {q : Sl → Gp → Prop} {σ : St} {τ : Sl} (dj : Dj G F) (rg : RG K (jn G F) H) (rs : RS K (jn G F) H τ σ) (h : q τ G) : PoS K F G H q σ H := ⟨τ, G, dj, Kp.refl _ _, rg, rs, h⟩
def mNext : TSm := fun d τ G => d.nx τ G
def mSeq (T U : TSm) : TSm := fun d τ G => T { d with nx := U d } τ G
theorem mss_nil : MSs B X [] mNext := mss_of pss_nil fun σ H τ G F d dj rs rg h => PoS.here dj rg.rg rs h
theorem mss_cons (h1 : MS B X st T) (h2 : MSs B X rest U) : MSs B X (st :: rest) (mSeq T U) :=
  mss_of (pss_cons h1 h2) fun σ H τ G F d dj rs rg h => ⟨τ, G, F, { d with nx := U d }, dj, rs, rg, h, ⟨fun σ' H' ⟨τ', G', d', k, rg', rs', hu⟩ => ⟨τ', G', F, d, d', rs', rg.go k rg', hu, liftD.behind k (EndsLe.refl _)⟩, fun _ _ z => z, fun _ _ z => z, fun _ _ z => z⟩⟩
theorem mss_one (h1 : MS B X st T) : MSs B X [st] T := pss_one h1
theorem ms_pass : MS B X (.Pass pos) mNext := ms_of ps_pass fun σ H τ G F d dj rs rg h => PoS.here dj rg.rg rs h
def mBrk : TSm := fun d τ G => d.bk τ G
def mCnt : TSm := fun d τ G => d.ct τ G
theorem ms_brk : MS B X (.Break pos) mBrk := ms_of ps_break fun σ H τ G F d dj rs rg h => PoS.here dj rg.rg rs h
theorem ms_cnt : MS B X (.Continue pos) mCnt := ms_of ps_continue fun σ H τ G F d dj rs rg h => PoS.here dj rg.rg rs h
def mDrop (Te : TEm) : TSm := fun d τ G => Te τ G fun _ G1 => d.nx τ G1
theorem ms_expr (he : ME B X e Te) (hs : swapsWith e none pos.line X.env = pure false := by rfl) : MS B X (.Expr e pos) (mDrop Te) :=
  ms_of (ps_expr he hs) fun σ H τ G F d dj rs rg h => ⟨τ, G, F, _, dj, rs, rg, h, fun v H1 ⟨w, G1, d1, k1, rg1, r1, h1⟩ => ⟨τ, G1, d1, k1, rg1, rs.kp k1, h1⟩⟩
def mRet (Te : TEm) : TSm := fun d τ G => Te τ G d.rt
theorem ms_ret (he : ME B X e Te) : MS B X (.Return (some e) pos) (mRet Te) :=
  ms_of (ps_ret he) fun σ H τ G F d dj rs rg h => ⟨τ, G, F, _, dj, rs, rg, h, fun v H1 z => z⟩
def mRetN : TSm := fun d _ G => d.rt .non G
theorem ms_retN : MS B X (.Return none pos) mRetN := ms_of ps_retN fun σ H τ G F d dj rs rg h => Po.here (w := .non) dj rg.rg rfl h
def mIfS (c : TTm) (T U : TSm) : TSm := fun d τ G => c τ G fun b G1 => match b with | true => T d τ G1 | false => U d τ G1
theorem ms_if {c : Expr} {a b : List Stmt} {tc : TTm} (hc : MT B X c tc) (ha : MSs B X a T) (hb : MSs B X b U) : MS B X (.If c a b pos) (mIfS tc T U) :=
  ms_of (ps_if hc ha hb) fun σ H τ G F d dj rs rg h => ⟨τ, G, F, _, dj, rs, rg, h, fun c H1 ⟨G1, d1, k1, rg1, h1⟩ => by
    cases c with
    | true =>
      rw [if_pos rfl]
      exact ⟨τ, G1, F, d, d1, rs.kp k1, rg.go k1 rg1, h1, liftD.behind k1 (EndsLe.refl _)⟩
    | false =>
      rw [if_neg Bool.false_ne_true]
      exact ⟨τ, G1, F, d, d1, rs.kp k1, rg.go k1 rg1, h1, liftD.behind k1 (EndsLe.refl _)⟩⟩
def mNever : TSm := fun _ _ _ => False
theorem ms_never : MS B X st mNever := ms_of ps_never fun σ H τ G F d dj rs rg h => h

/-! ### targets -/
inductive GT where
  | nm (i : Nat)
  | tp (gs : List GT)
mutual
def GT.t (K : PySem.W.Frag) : GT → TG
  | .nm i => gName i
  | .tp gs => gTup K gs.length (GT.ts K gs)
def GT.ts (K : PySem.W.Frag) : List GT → TGs
  | [] => gNil
  | g :: gs => gCons (GT.t K g) (GT.ts K gs)
end
mutual
def GT.run : GT → D → Gp → Sl → (Sl → Gp → Prop) → Prop
  | .nm i, w, G, τ, q => q (τ.set i (some w)) G
  | .tp gs, .tup ws, G, τ, q => GT.runs gs ws G τ q
  | .tp _, _, _, _, _ => False
def GT.runs : List GT → List D → Gp → Sl → (Sl → Gp → Prop) → Prop
  | [], [], G, τ, q => q τ G
  | g :: gs, w :: ws, G, τ, q => g.run w G τ fun τ' G' => GT.runs gs ws G' τ' q
  | _, _, _, _, _ => False
end
mutual
def GT.slots : GT → List Nat
  | .nm i => [i]
  | .tp gs => GT.slotss gs
def GT.slotss : List GT → List Nat
  | [] => []
  | g :: gs => g.slots ++ GT.slotss gs
end
theorem wipe_set {σ : St} {i : Nat} {v : Option V} : ∀ {vs : List Nat}, i ∈ vs → wipe (σ.set i v) vs = wipe σ vs
  | [], h => nomatch h
  | w :: vs, h => by
    show (wipe (σ.set i v) vs).set w none = (wipe σ vs).set w none
    by_cases hw : i ∈ vs
    · rw [wipe_set hw]
    · have e : w = i := by
        rcases List.mem_cons.mp h with e | e
        · exact e.symm
        · exact absurd e hw
      subst e
      have key : ∀ {vs : List Nat}, w ∉ vs → wipe (σ.set w v) vs = (wipe σ vs).set w v := by
        intro vs
        induction vs with
        | nil => intro _; rfl
        | cons u us ih =>
          intro hm
          show (wipe (σ.set w v) us).set u none = ((wipe σ us).set u none).set w v
          rw [ih fun z => hm (List.mem_cons_of_mem _ z), List.set_comm]
          rintro rfl
          exact hm List.mem_cons_self
      rw [key hw, List.set_set]
section
variable {K : PySem.W.Frag}
mutual
theorem GT.tmono : ∀ (g : GT) (v : V) (σ : St) (H : Hp) (q q' : St → Hp → Prop), g.t K v σ H q → (∀ σ' H', q σ' H' → q' σ' H') → g.t K v σ H q'
  | .nm i, _, _, _, _, _, h, k => k _ _ h
  | .tp gs, v, σ, H, q, q', ⟨a, xs, e, s, l, h⟩, k => ⟨a, xs, e, s, l, GT.tsmono gs xs σ H q q' h k⟩
theorem GT.tsmono : ∀ (gs : List GT) (vs : List V) (σ : St) (H : Hp) (q q' : St → Hp → Prop), GT.ts K gs vs σ H q → (∀ σ' H', q σ' H' → q' σ' H') → GT.ts K gs vs σ H q'
  | [], _, _, _, _, _, ⟨e, h⟩, k => ⟨e, k _ _ h⟩
  | g :: gs, vs, σ, H, q, q', ⟨v, r, e, h⟩, k => ⟨v, r, e, GT.tmono g v σ H _ _ h fun σ' H' z => GT.tsmono gs r σ' H' q q' z k⟩
end
end
section
variable {K : PySem.W.Frag} {R G : Gp} {H : Hp}
mutual
theorem GT.ok : ∀ (g : GT) (w : D) (v : V) (τ : Sl) (σ : St) (q : Sl → Gp → Prop), RG K R H → Rp K R H w v → RS K R H τ σ → g.run w G τ q →
    g.t K v σ H fun σ' H' => H' = H ∧ (∃ τ', RS K R H τ' σ' ∧ q τ' G) ∧ ∀ vs, (∀ i ∈ g.slots, i ∈ vs) → wipe σ' vs = wipe σ vs
  | .nm i, w, v, τ, σ, q, rg, rp, rs, h => ⟨rfl, ⟨_, rs.set rp i, h⟩, fun vs hv => wipe_set (hv i (by simp [GT.slots]))⟩
  | .tp gs, .tup ws, v, τ, σ, q, rg, rp, rs, h => by
    obtain ⟨p, vs, rfl, ht, rl⟩ := rp
    have h : GT.runs gs ws G τ q := by simpa [GT.run] using h
    have hl := GT.runs_len gs ws τ q h
    exact ⟨p, vs, rfl, ht.sq, by rw [rl.length, hl], by simpa [GT.slots] using GT.oks gs ws vs τ σ q rg rl rs h⟩
  | .tp _, .non, _, _, _, _, _, _, _, h => by simp [GT.run] at h
  | .tp _, .bl _, _, _, _, _, _, _, _, h => by simp [GT.run] at h
  | .tp _, .int _, _, _, _, _, _, _, _, h => by simp [GT.run] at h
  | .tp _, .str _, _, _, _, _, _, _, _, h => by simp [GT.run] at h
  | .tp _, .ref _, _, _, _, _, _, _, _, h => by simp [GT.run] at h
  | .tp _, .ty _, _, _, _, _, _, _, _, h => by simp [GT.run] at h
  | .tp _, .lst _, _, _, _, _, _, _, _, h => by simp [GT.run] at h
  | .tp _, .fz _, _, _, _, _, _, _, _, h => by simp [GT.run] at h
theorem GT.runs_len : ∀ (gs : List GT) (ws : List D) (τ : Sl) (q : Sl → Gp → Prop), GT.runs gs ws G τ q → ws.length = gs.length
  | [], [], _, _, _ => rfl
  | [], _ :: _, _, _, h => by simp [GT.runs] at h
  | _ :: _, [], _, _, h => by simp [GT.runs] at h
  | g :: gs, w :: ws, τ, q, h => by
    have h : g.run w G τ fun τ' G' => GT.runs gs ws G' τ' q := by simpa [GT.runs] using h
    obtain ⟨τ', h'⟩ := GT.run_some g w τ _ h
    rw [List.length_cons, List.length_cons, GT.runs_len gs ws τ' q h']
theorem GT.run_some : ∀ (g : GT) (w : D) (τ : Sl) (q : Sl → Gp → Prop), g.run w G τ q → ∃ τ', q τ' G
  | .nm i, w, τ, q, h => ⟨_, h⟩
  | .tp gs, .tup ws, τ, q, h => GT.runs_some gs ws τ q (by simpa [GT.run] using h)
  | .tp _, .non, _, _, h => by simp [GT.run] at h
  | .tp _, .bl _, _, _, h => by simp [GT.run] at h
  | .tp _, .int _, _, _, h => by simp [GT.run] at h
  | .tp _, .str _, _, _, h => by simp [GT.run] at h
  | .tp _, .ref _, _, _, h => by simp [GT.run] at h
  | .tp _, .ty _, _, _, h => by simp [GT.run] at h
  | .tp _, .lst _, _, _, h => by simp [GT.run] at h
  | .tp _, .fz _, _, _, h => by simp [GT.run] at h
theorem GT.runs_some : ∀ (gs : List GT) (ws : List D) (τ : Sl) (q : Sl → Gp → Prop), GT.runs gs ws G τ q → ∃ τ', q τ' G
  | [], [], τ, _, h => ⟨τ, by simpa [GT.runs] using h⟩
  | [], _ :: _, _, _, h => by simp [GT.runs] at h
  | _ :: _, [], _, _, h => by simp [GT.runs] at h
  | g :: gs, w :: ws, τ, q, h => by
    have h : g.run w G τ fun τ' G' => GT.runs gs ws G' τ' q := by simpa [GT.runs] using h
    obtain ⟨τ', h'⟩ := GT.run_some g w τ _ h
    exact GT.runs_some gs ws τ' q h'
theorem GT.oks : ∀ (gs : List GT) (ws : List D) (vs : List V) (τ : Sl) (σ : St) (q : Sl → Gp → Prop), RG K R H → RpL K R H ws vs → RS K R H τ σ → GT.runs gs ws G τ q →
    GT.ts K gs vs σ H fun σ' H' => H' = H ∧ (∃ τ', RS K R H τ' σ' ∧ q τ' G) ∧ ∀ vs, (∀ i ∈ GT.slotss gs, i ∈ vs) → wipe σ' vs = wipe σ vs
  | [], [], vs, τ, σ, q, rg, rl, rs, h => ⟨rl, rfl, ⟨τ, rs, by simpa [GT.runs] using h⟩, fun _ _ => rfl⟩
  | [], _ :: _, _, _, _, _, _, _, _, h => by simp [GT.runs] at h
  | _ :: _, [], _, _, _, _, _, _, _, h => by simp [GT.runs] at h
  | g :: gs, w :: ws, vs, τ, σ, q, rg, ⟨v, t, e, rp, rl⟩, rs, h => by
    have h : g.run w G τ fun τ' G' => GT.runs gs ws G' τ' q := by simpa [GT.runs] using h
    refine ⟨v, t, e, ?_⟩
    refine GT.tmono g _ _ _ _ _ (GT.ok g w v τ σ _ rg rp rs h) ?_
    intro σ' H' ⟨e', ⟨τ', rs', h'⟩, hw⟩
    rw [e']
    refine GT.tsmono gs _ _ _ _ _ (GT.oks gs ws t τ' σ' q rg rl rs' h') ?_
    intro σ2 H2 ⟨e2, hq, hw2⟩
    exact ⟨e2, hq, fun vs hv => (hw2 vs fun i hi => hv i (by simp [GT.slotss, hi])).trans (hw vs fun i hi => hv i (by simp [GT.slotss, hi]))⟩
end
end
def MG (X : Cx) (tg : Expr) (g : GT) : Prop := PG X tg (g.t X.K)
def MGs (X : Cx) (tgs : List Expr) (gs : List GT) : Prop := PGs X tgs (GT.ts X.K gs)
theorem mg_name {i : Nat} {x : Str} (hN : X.N.Nodup) (hi : X.N[i]? = some x) (hx : Loc X.env.scope x) (hf : X.fn x = true ∨ X.env.scope.names.lookup x = some .local := by first | exact .inl rfl | exact .inr rfl | assumption) : MG X (.Name x pos) (.nm i) :=
  pg_name hN hi hx hf
theorem mgs_nil : MGs X [] [] := pgs_nil
theorem mgs_cons {e : Expr} {es : List Expr} {g : GT} {gs : List GT} (h1 : MG X e g) (h2 : MGs X es gs)
    (hs : (assignEach (e :: es) X.env).map (·.2) = assign e X.env :: (assignEach es X.env).map (·.2) := by rfl) : MGs X (e :: es) (g :: gs) := pgs_cons h1 h2 hs
theorem mg_tup {es : List Expr} {k : Nat} {gs : List GT} (hc : X.calm = true) (h : MGs X es gs)
    (hn : (assignEach es X.env).length = gs.length := by rfl) (hst : (assignEach es X.env).findIdx? (·.1) = none := by rfl) : MG X (.Tuple es k pos) (.tp gs) := pg_tup hc h hn hst
/-- target = value -/
def mAsg (Te : TEm) (g : GT) : TSm := fun d τ G => Te τ G fun x G1 => g.run x G1 τ d.nx
theorem asg_lift {σ : St} {H : Hp} {τ : Sl} {G F : Gp} {d : Em} {g : GT} (dj : Dj G F) (rs : RS X.K (jn G F) H τ σ) (rg : RB B X.K (jn G F) H) (h : mAsg Te g d τ G) : tAsg (liftE B X.K Te) (g.t X.K) (liftD X.K F G H d) σ H :=
  ⟨τ, G, F, _, dj, rs, rg, h, fun v H1 ⟨w, G1, d1, k1, rg1, r1, h1⟩ => GT.tmono g v σ H1 _ _ (GT.ok g w v τ σ _ rg1 r1 (rs.kp k1) h1) (by
    rintro σ' H' ⟨rfl, ⟨τ', rs', hq⟩, _⟩
    exact ⟨τ', G1, d1, k1, rg1, rs', hq⟩)⟩
theorem ms_asg {tg : Expr} {g : GT} (he : ME B X e Te) (hg : MG X tg g) (hs : swapsWithSole [tg] e pos.line X.env = pure false := by rfl) (hw : swappedStores [tg] e X.env = pure none := by rfl)
    (h1 : (assignEach [tg] X.env).map (·.2) = [assign tg X.env] := by rfl) : MS B X (.Assign [tg] e pos) (mAsg Te g) :=
  ms_of (ps_asg he hg hs hw h1) fun σ H τ G F d dj rs rg h => asg_lift dj rs rg h
/-- name = value -/
theorem ms_set {i : Nat} {x : Str} {pos' : Pos} (hN : X.N.Nodup) (hi : X.N[i]? = some x) (hx : Loc X.env.scope x) (he : ME B X e Te) (hs : swapsWith e (some (.Name x pos')) pos.line X.env = pure false := by rfl) (hf : X.fn x = true ∨ X.env.scope.names.lookup x = some .local := by first | exact .inl rfl | exact .inr rfl | assumption) :
    MS B X (.Assign [.Name x pos'] e pos) (mAsg Te (.nm i)) :=
  ms_of (ps_set hN hi hx he hs hf) fun σ H τ G F d dj rs rg h => asg_lift (g := .nm i) dj rs rg h
/-- a, b = x, y -/
def mPar (i j : Nat) (Ta Tb : TEm) : TSm := fun d τ G => Ta τ G fun x G1 => Tb τ G1 fun y G2 => d.nx ((τ.set i (some x)).set j (some y)) G2
theorem ms_par {i j : Nat} {x y : Str} {a b : Expr} {Ta Tb : TEm} {px py pt : Pos} {kt k2 pt2} (hc : X.calm = true) (hN : X.N.Nodup) (hi : X.N[i]? = some x) (hj : X.N[j]? = some y) (hij : i ≠ j)
    (hx : X.env.scope.names.lookup x = some .local) (hy : X.env.scope.names.lookup y = some .local) (ha : ME B X a Ta) (hb : ME B X b Tb)
    (hw : swappedStores [.Tuple [.Name x px, .Name y py] kt pt] (.Tuple [a, b] k2 pt2) X.env = pure (some [x, y]) := by rfl)
    (hs : swapsWithSole [.Tuple [.Name x px, .Name y py] kt pt] (.Tuple [a, b] k2 pt2) pos.line X.env = pure false := by rfl) (h1 : starEach [a, b] X.env = (false, eval a X.env) :: starEach [b] X.env := by rfl) (h2 : starEach [b] X.env = (false, eval b X.env) :: starEach [] X.env := by rfl) :
    MS B X (.Assign [.Tuple [.Name x px, .Name y py] kt pt] (.Tuple [a, b] k2 pt2) pos) (mPar i j Ta Tb) :=
  ms_of (ps_par hc hN hi hj hij hx hy (ma_cons ha (ma_cons hb ma_nil h2) h1) hw hs) fun σ H τ G F d dj rs rg h => ⟨τ, G, F, (fun xs G2 => ∃ x y, xs = [x, y] ∧ d.nx ((τ.set i (some x)).set j (some y)) G2), dj, rs, rg, (by
      show Ta τ G _
      have h : Ta τ G fun x G1 => Tb τ G1 fun y G2 => d.nx ((τ.set i (some x)).set j (some y)) G2 := h
      have e : (fun x G1 => Tb τ G1 fun y G2 => d.nx ((τ.set i (some x)).set j (some y)) G2) = (fun x G1 => mCons Tb mNil τ G1 fun xs G2 => ∃ x' y, x :: xs = [x', y] ∧ d.nx ((τ.set i (some x')).set j (some y)) G2) := by
        funext x G1
        show Tb τ G1 _ = Tb τ G1 _
        congr 1
        funext y G2
        apply propext
        constructor
        · intro z; exact ⟨x, y, rfl, z⟩
        · rintro ⟨x', y', e, z⟩
          simp only [List.cons.injEq, and_true] at e
          obtain ⟨rfl, rfl⟩ := e
          exact z
      rw [e] at h
      exact h), fun vs H1 ⟨ws, G1, d1, k1, rg1, r1, x, y, e, h1⟩ => by
      subst e
      obtain ⟨v, t, e1, rx, ⟨v2, t2, e2, ry, e3⟩⟩ := r1
      cases (show t2 = [] from e3)
      subst e1; subst e2
      exact ⟨v, v2, rfl, _, G1, d1, k1, rg1, ((rs.kp k1).set rx i).set ry j, h1⟩⟩
/-- x op= e -/
def mAug (i : Nat) (Te : TEm) (m : M2) : TSm := fun d τ G => ∃ x, τ[i]? = some (some x) ∧ Te τ G fun y G1 => m x y G1 fun z G2 => d.nx (τ.set i (some z)) G2
theorem ms_aug {i : Nat} {x : Str} {op : Operator} {m : M2} {pos' : Pos} (hN : X.N.Nodup) (hi : X.N[i]? = some x) (hx : Loc X.env.scope x) (he : ME B X e Te) (ho : OpM X (inplaceOp op) m) (hf : X.fn x = true ∨ X.env.scope.names.lookup x = some .local := by first | exact .inl rfl | exact .inr rfl | assumption) :
    MS B X (.AugAssign (.Name x pos') op e pos) (mAug i Te m) :=
  ms_of (ps_aug hN hi hx he (opR_of ho : OpR X (inplaceOp op) _) hf) fun σ H τ G F d dj rs rg ⟨x, ex, h⟩ => by
    obtain ⟨v, ev, rv⟩ := rs.2 i x ex
    exact ⟨v, ev, τ, G, F, _, dj, rs, rg, h, fun v2 H2 ⟨y, G2, d2, k2, rg2, r2, h2⟩ => ⟨G2, F, x, y, _, d2, rg2, rv.kp k2, r2, h2, fun z H3 ⟨zw, G3, d3, k3, rg3, r3, h3⟩ => ⟨_, G3, d3, k2.trans k3, rg3, ((rs.kp k2).kp k3).set r3 i, h3⟩⟩⟩
/-- o[i] = e, o a list -/
def mSetI (Te To Ti : TEm) : TSm := fun d τ G => Te τ G fun v G1 => To τ G1 fun o G2 => Ti τ G2 fun i G3 => match o, i with
  | .ref a, .int k => ∃ xs j, G3 a = some (.lst xs) ∧ ixN xs.length k = some j ∧ d.nx τ (put G3 a (.lst (xs.set j v)))
  | _, _ => False
theorem ms_setI {o i : Expr} {To Ti : TEm} {pos' : Pos} (he : ME B X e Te) (ho : ME B X o To) (hi : ME B X i Ti)
    (ha : ∀ v, assign (.Subscript o i pos') X.env v = (do
      let ov ← holding [v] (eval o X.env)
      let iv ← holding [v, ov] (eval i X.env)
      standAt pos'
      holding [v, ov, iv] (setItem ov iv v)
      release [v, ov, iv] []) := by intro _; rfl) (hs : swapsWithSole [.Subscript o i pos'] e pos.line X.env = pure false := by rfl) (hw : swappedStores [.Subscript o i pos'] e X.env = pure none := by rfl)
    (h1 : (assignEach [.Subscript o i pos'] X.env).map (·.2) = [assign (.Subscript o i pos') X.env] := by rfl) : MS B X (.Assign [.Subscript o i pos'] e pos) (mSetI Te To Ti) :=
  ms_of (ps_asg he (pg_sub ho hi set_list ha) hs hw h1) fun σ H τ G F d dj rs rg h => ⟨τ, G, F, _, dj, rs, rg, h, fun v H1 ⟨w, G1, d1, k1, rg1, r1, h1⟩ => ⟨τ, G1, F, _, d1, rs.kp k1, rg.go k1 rg1, h1, fun v2 H2 ⟨wo, G2, d2, k2, rg2, r2, h2⟩ =>
    ⟨τ, G2, F, _, d2, (rs.kp k1).kp k2, (rg.go k1 rg1).go k2 rg2, h2, fun v3 H3 ⟨wi, G3, d3, k3, rg3, r3, h3⟩ => by
      cases wo with
      | ref a =>
        cases wi with
        | int k =>
          obtain ⟨xs, j, g, hj, h4⟩ := h3
          obtain ⟨vs, hv, rl⟩ := rg3 a _ (jn_some g)
          obtain ⟨d4, k4, rg4⟩ := put_step d3 rg3 g (rl.set ((r1.kp k2).kp k3) j)
          exact ⟨a, vs, k, j, r2, r3, hv, by rw [rl.length]; exact hj, τ, _, d4, ((k1.trans k2).trans k3).trans k4, rg4, (((rs.kp k1).kp k2).kp k3).kp k4, h4⟩
        | _ => exact False.elim h3
      | _ => exact False.elim h3⟩⟩⟩

/-! ### while -/
def mWhile (c : TTm) (T : TSm) : TSm := fun d τ G => ∃ W : Nat → Sl → Gp → Prop, (∃ m, W m τ G) ∧ ∀ m τ G, W m τ G →
  c τ G fun b G1 => match b with
    | true => ∃ N : Sl → Gp → Prop, (∀ τ' G', N τ' G' → ∃ m', m' < m ∧ W m' τ' G') ∧ T { d with nx := N, ct := N, bk := d.nx } τ G1
    | false => d.nx τ G1
theorem ms_while {c : Expr} {body : List Stmt} {tc : TTm} (hp : PassesOwn (model X.prog X.w) X.A X.env X.xe) (hc : MT B X c tc) (hb : MSs B X body T) : MS B X (.While c body [] pos) (mWhile tc T) :=
  ms_of (ps_while hp hc hb) fun σ H τ G F d dj rs rg ⟨W, ⟨m0, w0⟩, hW⟩ => by
    refine ⟨fun m σ' H' => ∃ τ' G', Dj G' F ∧ Kp (jn G F) H (jn G' F) H' ∧ RG X.K (jn G' F) H' ∧ RS X.K (jn G' F) H' τ' σ' ∧ W m τ' G', ⟨m0, τ, G, dj, Kp.refl _ _, rg.rg, rs, w0⟩, ?_⟩
    rintro m σ1 H1 ⟨τ1, G1, d1, k1, rg1, rs1, w1⟩
    refine ⟨τ1, G1, F, _, d1, rs1, rg.go k1 rg1, hW m τ1 G1 w1, fun b H2 ⟨G2, d2, k2, rg2, h2⟩ => ?_⟩
    cases b with
    | true =>
      obtain ⟨N, hN, hT⟩ := h2
      rw [if_pos rfl]
      refine ⟨PoS X.K F G H N, fun σ3 H3 ⟨τ3, G3, d3, k3, rg3, rs3, n3⟩ => ?_, τ1, G2, F, _, d2, rs1.kp k2, (rg.go k1 rg1).go k2 rg2, hT, ⟨fun σ3 H3 z => z.behind (k1.trans k2), fun v H3 z => z.behind (k1.trans k2), fun σ3 H3 z => z.behind (k1.trans k2), fun σ3 H3 z => z.behind (k1.trans k2)⟩⟩
      obtain ⟨m', l, w'⟩ := hN τ3 G3 n3
      exact ⟨m', l, τ3, G3, d3, k3, rg3, rs3, w'⟩
    | false =>
      rw [if_neg Bool.false_ne_true]
      exact ⟨τ1, G2, d2, k1.trans k2, rg2, rs1.kp k2, h2⟩

/-! ### what is walked -/
/-- J yields ws while the state is alive -/
structure JM (K : PySem.W.Frag) (J : It) (ws : List D) (alive : Gp → Prop) (R0 : Gp) (H0 : Hp) : Prop where
  mono : ∀ G F, alive G → alive (jn G F)
  at_ : ∀ (i : Nat) (R : Gp) (H : Hp), Kp R0 H0 R H → RG K R H → alive R →
    (∀ w, ws[i]? = some w → J.go i H ∧ ∀ x H', J.yld i H x H' → Kp R H R H' ∧ RG K R H' ∧ Rp K R H' w x) ∧ (ws.length = i → J.stop i H)
abbrev TIm := Sl → Gp → (List D → (Gp → Prop) → Gp → Prop) → Prop
def liftI (B : Bs) (K : PySem.W.Frag) (T : TIm) : TI := fun σ H R => ∃ τ G F r, Dj G F ∧ RS K (jn G F) H τ σ ∧ RB B K (jn G F) H ∧ T τ G r ∧ ∀ J H1 ws alive G1, Dj G1 F → Kp (jn G F) H (jn G1 F) H1 → RG K (jn G1 F) H1 → JM K J ws alive (jn G1 F) H1 → r ws alive G1 → R J H1
def MI (B : Bs) (X : Cx) (tg iter : Expr) (T : TIm) : Prop := PI X tg iter (liftI B X.K T)
theorem pi_mono {tg iter : Expr} {wi wi' : TI} (h : PI X tg iter wi) (k : ∀ σ H R, wi' σ H R → wi σ H R) : PI X tg iter wi' := ⟨fun pins s σ H R I q => h.run pins s σ H R I (k _ _ _ q)⟩
/-- the turns, one after another -/
def mLoop (alive : Gp → Prop) (g : GT) (T : TSm) (d : Em) : List D → Sl → Gp → Prop
  | [], τ, G => alive G ∧ d.nx τ G
  | w :: ws, τ, G => alive G ∧ g.run w G τ (T { d with nx := mLoop alive g T d ws, ct := mLoop alive g T d ws, bk := d.nx })
def mFor (wi : TIm) (g : GT) (T : TSm) : TSm := fun d τ G => wi τ G fun ws alive G1 => mLoop alive g T d ws τ G1
theorem loop_lift {J : It} {ws : List D} {alive : Gp → Prop} {g : GT} {σ : St} {H0 H : Hp} {τ : Sl} {G0 G F : Gp} {d : Em} (dj : Dj G F) (k0 : Kp (jn G0 F) H0 (jn G F) H) (rs : RS X.K (jn G F) H τ σ) (rb : RB B X.K (jn G0 F) H0) (rg : RG X.K (jn G F) H) (hJ : JM X.K J ws alive (jn G F) H) (h : mLoop alive g T d ws τ G) :
    ∃ W : Nat → Nat → St → Hp → Prop, (∃ m, W 0 m σ H) ∧ ∀ i m σ H, W i m σ H → (J.stop i H ∧ (liftD X.K F G0 H0 d).nx σ H) ∨ (J.go i H ∧ ∃ N : St → Hp → Prop, (∀ σ' H', N σ' H' → ∃ m', m' < m ∧ W (i + 1) m' σ' H') ∧
      ∀ x H', J.yld i H x H' → g.t X.K x σ H' fun σ2 H2 => liftS B X.K T { (liftD X.K F G0 H0 d) with nx := N, ct := N, bk := (liftD X.K F G0 H0 d).nx } σ2 H2) := by
  refine ⟨fun i m σ' H' => m = ws.length - i ∧ i ≤ ws.length ∧ ∃ τ' G', Dj G' F ∧ Kp (jn G F) H (jn G' F) H' ∧ RG X.K (jn G' F) H' ∧ RS X.K (jn G' F) H' τ' σ' ∧ mLoop alive g T d (ws.drop i) τ' G', ⟨ws.length, by simp, Nat.zero_le _, τ, G, dj, Kp.refl _ _, rg, rs, h⟩, ?_⟩
  rintro i m σ1 H1 ⟨rfl, hi, τ1, G1, d1, k1, rg1, rs1, h1⟩
  by_cases hlt : i < ws.length
  · rw [List.drop_eq_getElem_cons hlt] at h1
    obtain ⟨al, h1⟩ := h1
    obtain ⟨go, yl⟩ := (hJ.at_ i _ H1 k1 rg1 (hJ.mono _ _ al)).1 ws[i] (List.getElem?_eq_getElem hlt)
    refine .inr ⟨go, fun σ' H' => ∃ τ' G', Dj G' F ∧ Kp (jn G F) H (jn G' F) H' ∧ RG X.K (jn G' F) H' ∧ RS X.K (jn G' F) H' τ' σ' ∧ mLoop alive g T d (ws.drop (i + 1)) τ' G', fun σ' H' z => ⟨ws.length - (i + 1), by omega, rfl, hlt, z⟩, fun x H' y => ?_⟩
    obtain ⟨k2, rg2, r2⟩ := yl x H' y
    refine GT.tmono g x σ1 H' _ _ (GT.ok g ws[i] x τ1 σ1 _ rg2 r2 (rs1.kp k2) h1) ?_
    intro σ2 H2 ⟨e2, ⟨τ2, rs2, h2⟩, _⟩
    rw [e2]
    have kk := k1.trans k2
    exact ⟨τ2, G1, F, _, d1, rs2, ⟨rg2, rb.kp.trans (k0.trans kk)⟩, h2, ⟨fun σ3 H3 ⟨τ3, G3, d3, k3, rg3, rs3, n3⟩ => ⟨τ3, G3, d3, kk.trans k3, rg3, rs3, n3⟩, fun v H3 z => z.behind (k0.trans kk), fun σ3 H3 z => z.behind (k0.trans kk), fun σ3 H3 ⟨τ3, G3, d3, k3, rg3, rs3, n3⟩ => ⟨τ3, G3, d3, kk.trans k3, rg3, rs3, n3⟩⟩⟩
  · have e : i = ws.length := by omega
    subst e
    rw [List.drop_length] at h1
    exact .inl ⟨(hJ.at_ _ _ H1 k1 rg1 (hJ.mono _ _ h1.1)).2 rfl, τ1, G1, d1, k0.trans k1, rg1, rs1, h1.2⟩
theorem ms_for {tg iter : Expr} {body : List Stmt} {wi : TIm} {g : GT} (hp : PassesOwn (model X.prog X.w) X.A X.env X.xe) (hc : X.calm = true) (hi : MI B X tg iter wi) (hg : MG X tg g) (hb : MSs B X body T)
    (hs : ∀ x, foldedSetIterable iter X.env x = pure x := by intro _; rfl) : MS B X (.For tg iter body [] pos) (mFor wi g T) :=
  ms_of (ps_for hp hc hi hg hb hs) fun σ H τ G F d dj rs rg h => ⟨τ, G, F, _, dj, rs, rg, h, fun J H1 ws alive G1 d1 k1 rg1 hJ h1 => loop_lift d1 k1 (rs.kp k1) rg rg1 hJ h1⟩
/-- a list, a tuple, a text -/
def mSeqI (Te : TEm) : TIm := fun τ G r => Te τ G fun x G1 => match x with
  | .tup ws => r ws (fun _ => True) G1
  | .lst ws => r ws (fun _ => True) G1
  | .fz ws => r ws (fun _ => True) G1
  | .str z => r (z.cps.toList.map fun c => .str ⟨#[c]⟩) (fun _ => True) G1
  | .ref a => ∃ ws, G1 a = some (.lst ws) ∧ r ws (fun G => G a = some (.lst ws)) G1
  | _ => False
end
end ML

set_option maxRecDepth 100000
namespace ML
open PySem PySem.Spec L2
open PyProof.Rows hiding St
section
variable {B : Bs} {X : Cx} {e : Expr} {es : List Expr} {Te : TEm} {Tl : TAm} {tg : Expr} {pos : Pos}
/-! ### iterators -/
theorem jm_list {K : PySem.W.Frag} {R0 : Gp} {H : Hp} {p : Addr} {ws : List D} {alive : Gp → Prop} (m : ∀ G F, alive G → alive (jn G F)) (h : ∀ R H', Kp R0 H R H' → RG K R H' → alive R → ∃ vs, SqL K H' p vs ∧ RpL K R H' ws vs) : JM K (Itl K p) ws alive R0 H := ⟨m, fun i G' H' k rg al => by
  obtain ⟨vs, sq, rl⟩ := h G' H' k rg al
  refine ⟨fun w hw => ?_, fun hi => ⟨vs, sq, by rw [rl.length]; exact Nat.le_of_eq hi⟩⟩
  obtain ⟨v, hv, rv⟩ := rl.get hw
  refine ⟨⟨vs, v, sq, hv⟩, fun x H2 ⟨e, y⟩ => ?_⟩
  subst e
  have : vs[i]? = some x := y vs sq
  rw [hv] at this
  cases this
  exact ⟨Kp.refl _ _, rg, rv⟩⟩
theorem jm_tup {K : PySem.W.Frag} {R0 : Gp} {H : Hp} {p : Addr} {ws : List D} {alive : Gp → Prop} (m : ∀ G F, alive G → alive (jn G F)) (h : ∀ R H', Kp R0 H R H' → RG K R H' → alive R → ∃ vs, SqT K H' p vs ∧ RpL K R H' ws vs) : JM K (Itt K p) ws alive R0 H := ⟨m, fun i G' H' k rg al => by
  obtain ⟨vs, sq, rl⟩ := h G' H' k rg al
  refine ⟨fun w hw => ?_, fun hi => ⟨vs, sq, by rw [rl.length]; exact Nat.le_of_eq hi⟩⟩
  obtain ⟨v, hv, rv⟩ := rl.get hw
  refine ⟨⟨vs, v, sq, hv⟩, fun x H2 ⟨e, y⟩ => ?_⟩
  subst e
  have : vs[i]? = some x := y vs sq
  rw [hv] at this
  cases this
  exact ⟨Kp.refl _ _, rg, rv⟩⟩
theorem jm_str {K : PySem.W.Frag} {R0 : Gp} {H : Hp} {z : Str} : JM K (Its z) (z.cps.toList.map fun c => .str ⟨#[c]⟩) (fun _ => True) R0 H := ⟨fun _ _ h => h, fun i G' H' k rg _ => by
  refine ⟨fun w hw => ?_, fun hi => by rw [List.length_map, Array.length_toList] at hi; exact Nat.le_of_eq hi⟩
  rw [List.getElem?_map, Array.getElem?_toList] at hw
  cases e : z.cps[i]? with
  | none => rw [e] at hw; cases hw
  | some c =>
    rw [e] at hw
    cases hw
    refine ⟨(Array.getElem?_eq_some_iff.mp e).1, fun x H2 ⟨e2, c', e3, e4⟩ => ?_⟩
    subst e2
    rw [e] at e3
    cases e3
    exact ⟨Kp.refl _ _, rg, e4⟩⟩
theorem pie_list {pins : List (Addr × Obj)} {σ : St} {H : Hp} {s : Shared} {R : It → Hp → Prop} {E : Value → Shared → Prop} {a : Addr} {xs : List V} (I : Inv X pins σ H s) (hq : SqL X.K H a xs) (q : R (Itl X.K a) H) : wpAny (model X.prog X.w) X.A (pyIter (.ref a)) (PIE X pins σ tg R) E s := by
  obtain ⟨its, rv, p, hz⟩ := I.list hq
  refine wpAny_pyIter_list p.isList ?_
  refine ⟨s.heap.objs.size, [s.heap.objs.size], _, _, H, rfl, I.kept (t' := s.toks) fun b o e => Heap.get?_push_of_some _ e, turn_list a _, ⟨_, Heap.get?_push_size _ rfl, rfl, rfl⟩, fun b hb => ?_, q⟩
  have e : b = s.heap.objs.size := by simpa using hb
  subst e
  exact I.fpOk (Nat.le_refl _) (I.hok.fresh (Nat.le_refl _))
theorem pie_tup {pins : List (Addr × Obj)} {σ : St} {H : Hp} {s : Shared} {R : It → Hp → Prop} {E : Value → Shared → Prop} {a : Addr} {xs : List V} (I : Inv X pins σ H s) (hq : SqT X.K H a xs) (q : R (Itt X.K a) H) : wpAny (model X.prog X.w) X.A (pyIter (.ref a)) (PIE X pins σ tg R) E s := by
  obtain ⟨its, rv, p, hz⟩ := I.tuple hq
  refine wpAny_pyIter_tuple (show s.heap.IsTuple a its.toArray from p) ?_
  refine ⟨s.heap.objs.size, [s.heap.objs.size], _, _, H, rfl, I.kept (t' := s.toks) fun b o e => Heap.get?_push_of_some _ e, turn_tuple a _, ⟨_, Heap.get?_push_size _ rfl, rfl, rfl⟩, fun b hb => ?_, q⟩
  have e : b = s.heap.objs.size := by simpa using hb
  subst e
  exact I.fpOk (Nat.le_refl _) (I.hok.fresh (Nat.le_refl _))
theorem mi_seq (he : ME B X e Te) : MI B X tg e (mSeqI Te) := by
  refine ⟨fun pins s σ H R I ⟨τ, G, F, r, dj, rs, rb, hT, c⟩ => ?_⟩
  refine thn (he.run pins s σ H (Po X.K F G H _) I ⟨τ, G, F, _, dj, rs, rb, hT, fun _ _ z => z⟩) fun u s1 ⟨xv, H1, I1, r1, w, G1, d1, k1, rg1, rp1, h1⟩ => ?_
  cases w with
  | tup ws =>
    obtain ⟨p, vs, rfl, ht, rl⟩ := rp1
    cases r1
    exact pie_tup I1 ht.sq (c _ H1 ws _ G1 d1 k1 rg1 (jm_tup (fun _ _ h => h) fun G' H' k _ _ => ⟨vs, (ht.keep k).sq, rl.kp k⟩) h1)
  | lst ws =>
    obtain ⟨p, vs, rfl, ht, rl⟩ := rp1
    cases r1
    exact pie_list I1 ht.sq (c _ H1 ws _ G1 d1 k1 rg1 (jm_list (fun _ _ h => h) fun G' H' k _ _ => ⟨vs, (ht.keep k).sq, rl.kp k⟩) h1)
  | fz ws =>
    obtain ⟨p, vs, rfl, ht, rl⟩ := rp1
    cases r1
    exact pie_list I1 ht.sq (c _ H1 ws _ G1 d1 k1 rg1 (jm_list (fun _ _ h => h) fun G' H' k _ _ => ⟨vs, (ht.keep k).sq, rl.kp k⟩) h1)
  | str z =>
    cases (show xv = .str z from rp1)
    obtain ⟨t, rfl⟩ := r1
    have q := c (Its z) H1 _ (fun _ => True) G1 d1 k1 rg1 jm_str h1
    cases ha : z.cps.all (· < 128)
    · exact wpAny_pyIter_wide ha (pi_one (tk := s1.toks) I1 _ (turn_str _ z t "str_iterator" (.inr rfl)) ⟨_, Heap.get?_push_size _ rfl, rfl, rfl⟩ q)
    · exact wpAny_pyIter_ascii ha (pi_one (tk := s1.toks) I1 _ (turn_str _ z t "str_ascii_iterator" (.inl rfl)) ⟨_, Heap.get?_push_size _ rfl, rfl, rfl⟩ q)
  | ref a =>
    obtain ⟨ws, g, h1⟩ := h1
    cases (show xv = .ref a from rp1)
    cases r1
    obtain ⟨vs, hv, rl⟩ := rg1 a _ (jn_some g)
    refine pie_list I1 (.inl (.inl hv)) (c _ H1 ws _ G1 d1 k1 rg1 (jm_list (fun _ _ h => jn_some h) fun G' H' k rg' al => ?_) h1)
    obtain ⟨vs', hv', rl'⟩ := rg' a _ al
    exact ⟨vs', .inl (.inl hv'), rl'⟩
  | _ => exact False.elim h1
/-- lo, lo + 1, .. -/
def rng (lo : Int) (n : Nat) : List D := (List.range n).map fun k => .int (lo + (k : Nat))
theorem rng_get {lo : Int} {n i : Nat} : (rng lo n)[i]? = if i < n then some (.int (lo + (i : Nat))) else none := by
  unfold rng
  rw [List.getElem?_map]
  by_cases h : i < n
  · rw [List.getElem?_range h, if_pos h]; rfl
  · rw [if_neg h, List.getElem?_eq_none (by rw [List.length_range]; omega)]; rfl
theorem rng_len {lo : Int} {n : Nat} : (rng lo n).length = n := by unfold rng; rw [List.length_map, List.length_range]
theorem jm_rng {K : PySem.W.Frag} {R0 : Gp} {H : Hp} {lo : Int} {n : Nat} : JM K (Itr lo n) (rng lo n) (fun _ => True) R0 H := ⟨fun _ _ h => h, fun i G' H' k rg _ => by
  refine ⟨fun w hw => ?_, fun hi => by rw [rng_len] at hi; exact Nat.le_of_eq hi⟩
  rw [rng_get] at hw
  by_cases h : i < n
  · rw [if_pos h] at hw
    cases hw
    exact ⟨h, fun x H2 ⟨e2, e3⟩ => by subst e2; exact ⟨Kp.refl _ _, rg, e3⟩⟩
  · rw [if_neg h] at hw; cases hw⟩
theorem RpL.one {K : PySem.W.Frag} {G : Gp} {H : Hp} {w : D} {vs : List V} (h : RpL K G H [w] vs) : ∃ v, vs = [v] ∧ Rp K G H w v := by
  obtain ⟨v, t, e, r, h⟩ := h
  cases (show t = [] from h)
  exact ⟨v, e, r⟩
theorem RpL.two {K : PySem.W.Frag} {G : Gp} {H : Hp} {w w' : D} {vs : List V} (h : RpL K G H [w, w'] vs) : ∃ v v', vs = [v, v'] ∧ Rp K G H w v ∧ Rp K G H w' v' := by
  obtain ⟨v, t, e, r, h⟩ := h
  obtain ⟨v', e', r'⟩ := RpL.one h
  exact ⟨v, v', by rw [e, e'], r, r'⟩
theorem RpL.three {K : PySem.W.Frag} {G : Gp} {H : Hp} {w w' w2 : D} {vs : List V} (h : RpL K G H [w, w', w2] vs) : ∃ v v' v2, vs = [v, v', v2] ∧ Rp K G H w v ∧ Rp K G H w' v' ∧ Rp K G H w2 v2 := by
  obtain ⟨v, t, e, r, h⟩ := h
  obtain ⟨v', v2, e', r', r2⟩ := RpL.two h
  exact ⟨v, v', v2, by rw [e, e'], r, r', r2⟩
def mRng1 (Ta : TEm) : TIm := fun τ G r => Ta τ G fun x G1 => match x with
  | .int j => (-(2 ^ 62) ≤ j ∧ j < 2 ^ 62) ∧ r (rng 0 j.toNat) (fun _ => True) G1
  | _ => False
def mRng2 (Ta Tb : TEm) : TIm := fun τ G r => Ta τ G fun x G1 => Tb τ G1 fun y G2 => match x, y with
  | .int i, .int j => (-(2 ^ 62) ≤ i ∧ i < 2 ^ 62 ∧ -(2 ^ 62) ≤ j ∧ j < 2 ^ 62) ∧ r (rng i (j - i).toNat) (fun _ => True) G2
  | _, _ => False
theorem mi_rng1 {a : Expr} {Ta : TEm} {p pos : Pos} (hg : Gl X "range") (hm : X.mg "range" = none) (ha : ME B X a Ta) (hs : starEach [a] X.env = [(false, eval a X.env)] := by rfl) (hs0 : starEach [a] X.env = (false, eval a X.env) :: starEach [] X.env := by rfl) : MI B X tg (.Call (.Name "range" p) [a] [] pos) (mRng1 Ta) :=
  pi_mono (pi_range1 hg hm (pa_cons ha pa_nil hs0) hs) fun σ H R ⟨τ, G, F, r, dj, rs, rb, h, c⟩ => ⟨τ, G, F, _, dj, rs, rb, h, fun v H1 ⟨w, G1, d1, k1, rg1, r1, h1⟩ => by
    cases w with
    | int j =>
      cases (show v = .int j from r1)
      exact ⟨j, rfl, h1.1.1, h1.1.2, c _ H1 _ _ G1 d1 k1 rg1 jm_rng h1.2⟩
    | _ => exact False.elim h1⟩
theorem mi_rng2 {a b : Expr} {Ta Tb : TEm} {p pos : Pos} (hg : Gl X "range") (hm : X.mg "range" = none) (ha : ME B X a Ta) (hb : ME B X b Tb) (hs : starEach [a, b] X.env = [(false, eval a X.env), (false, eval b X.env)] := by rfl) (hs2 : starEach [b] X.env = [(false, eval b X.env)] := by rfl)
    (hs0 : starEach [a, b] X.env = (false, eval a X.env) :: starEach [b] X.env := by rfl) (hs1 : starEach [b] X.env = (false, eval b X.env) :: starEach [] X.env := by rfl) : MI B X tg (.Call (.Name "range" p) [a, b] [] pos) (mRng2 Ta Tb) :=
  pi_mono (pi_range2 hg hm (pa_cons ha (pa_cons hb pa_nil hs1) hs0) hs hs2) fun σ H R ⟨τ, G, F, r, dj, rs, rb, h, c⟩ => ⟨τ, G, F, _, dj, rs, rb, h, fun v H1 ⟨w, G1, d1, k1, rg1, r1, h1⟩ => ⟨τ, G1, F, _, d1, rs.kp k1, rb.go k1 rg1, h1, fun v2 H2 ⟨w2, G2, d2, k2, rg2, r2, h2⟩ => by
    cases w with
    | int i =>
      cases w2 with
      | int j =>
        cases (show v = .int i from r1)
        cases (show v2 = .int j from r2)
        exact ⟨i, j, rfl, h2.1, c _ H2 _ _ G2 d2 (k1.trans k2) rg2 jm_rng h2.2⟩
      | _ => exact False.elim h2
    | _ => exact False.elim h2⟩⟩

/-! ### comprehensions -/
def mComp (alive : Gp → Prop) (g : GT) (tt : TTm) (Te : TEm) (τ0 : Sl) : List D → List D → Gp → (List D → Gp → Prop) → Prop
  | [], acc, G, q => alive G ∧ q acc G
  | w :: ws, acc, G, q => alive G ∧ g.run w G τ0 fun τ2 G2 => tt τ2 G2 fun b G3 => match b with
    | true => Te τ2 G3 fun y G4 => acc.length < sizeLine ∧ mComp alive g tt Te τ0 ws (acc ++ [y]) G4 q
    | false => mComp alive g tt Te τ0 ws acc G3 q
def wipeM (τ : Sl) : List Nat → Sl
  | [] => τ
  | v :: vs => (wipeM τ vs).set v none
def mLc (own : Bool) (wi : TIm) (g : GT) (tt : TTm) (Te : TEm) (vs : List Nat) : TEm := fun τ G q => wi τ G fun ws alive G1 => mComp alive g tt Te (wipeM τ vs) ws [] G1 fun acc G2 => newL own acc G2 q
def mYes : TTm := fun _ G q => q true G
theorem RS.wipe {K : PySem.W.Frag} {G : Gp} {H : Hp} {τ : Sl} {σ : St} (h : RS K G H τ σ) : ∀ vs : List Nat, RS K G H (wipeM τ vs) (L2.wipe σ vs)
  | [] => h
  | v :: vs => by
    have ih := RS.wipe h vs
    refine ⟨by unfold wipeM L2.wipe; rw [List.length_set, List.length_set]; exact ih.1, fun j u e => ?_⟩
    unfold wipeM at e
    by_cases hj : j = v
    · subst hj
      by_cases hl : j < (wipeM τ vs).length
      · rw [List.getElem?_set_self hl] at e; cases e
      · rw [List.getElem?_eq_none_iff.mpr (by rw [List.length_set]; omega)] at e; cases e
    · rw [List.getElem?_set_ne (Ne.symm hj)] at e
      obtain ⟨x, a, b⟩ := ih.2 j u e
      exact ⟨x, by unfold L2.wipe; rw [List.getElem?_set_ne (Ne.symm hj)]; exact a, b⟩
/-- the list that is being made, out of sight -/
def one (a : Addr) (o : MO) : Gp := fun b => if b = a then some o else none
theorem one_same {a : Addr} {o : MO} : one a o a = some o := if_pos rfl
theorem one_ne {a b : Addr} {o : MO} (h : b ≠ a) : one a o b = none := if_neg h
theorem jn_one {G F : Gp} {a : Addr} {o : MO} (h : G a = none) : jn G (jn (one a o) F) = put (jn G F) a o := by
  funext b
  by_cases hb : b = a
  · subst hb; rw [put_same, jn_none h, jn_some one_same]
  · rw [put_ne hb]
    cases e : G b with
    | some u => rw [jn_some e, jn_some e]
    | none => rw [jn_none e, jn_none e, jn_none (one_ne hb)]
theorem dj_one {G F : Gp} {a : Addr} {o : MO} (d : Dj G F) (h : G a = none) : Dj G (jn (one a o) F) := fun b u e => by
  have hb : b ≠ a := by rintro rfl; rw [h] at e; cases e
  rw [jn_none (one_ne hb)]; exact d b u e
theorem dj_one' {G F : Gp} {a : Addr} {o : MO} (h : Dj G (jn (one a o) F)) : Dj G F ∧ G a = none := by
  refine ⟨fun b u e => ?_, ?_⟩
  · have := h b u e
    exact (jn_free this).2
  · cases e : G a with
    | none => rfl
    | some u => have := h a u e; rw [jn_some one_same] at this; cases this
structure MPTs (B : Bs) (X : Cx) (ifs : List Expr) (t : TTm) : Prop where
  pts : PTs X ifs (liftT B X.K t)
theorem mts_nil : MPTs B X [] mYes := ⟨⟨fun pins s σ H Q I ⟨τ, G, F, q, dj, rs, rg, h, c⟩ => pts_nil.run pins s σ H Q I (c true H ⟨G, dj, Kp.refl _ _, rg.rg, h⟩)⟩⟩
theorem mts_one {c : Expr} {t : TTm} (h : MT B X c t) : MPTs B X [c] t := ⟨pts_one h⟩
theorem kp_drop {R : Gp} {H : Hp} {p : Addr} {m : MO} : Kp (put R p m) H R H := fun a o g h => by
  refine ⟨?_, h⟩
  have ne : a ≠ p := by rintro rfl; rw [put_same] at g; cases g
  rw [put_ne ne] at g; exact g
theorem rg_drop {K : PySem.W.Frag} {R : Gp} {H : Hp} {p : Addr} {m : MO} (h : R p = none) (rg : RG K (put R p m) H) : RG K R H := fun a u e => by
  have ne : a ≠ p := by rintro rfl; rw [h] at e; cases e
  exact (rg a u (by rw [put_ne ne]; exact e)).kp_same kp_drop fun _ z => z
theorem wipe_wipe (σ : St) : ∀ vs us : List Nat, (∀ i ∈ us, i ∈ vs) → L2.wipe (L2.wipe σ us) vs = L2.wipe σ vs
  | vs, [], _ => rfl
  | vs, u :: us, h => by
    show L2.wipe ((L2.wipe σ us).set u none) vs = _
    rw [wipe_set (h u List.mem_cons_self)]
    exact wipe_wipe σ vs us fun i hi => h i (List.mem_cons_of_mem _ hi)
theorem comp_lift {J : It} {ws : List D} {alive : Gp → Prop} {g : GT} {tt : TTm} {own : Bool} {vs : List Nat} {σ : St} {H0 H1 : Hp} {τ : Sl} {G0 G1 F : Gp} {q : MK} (hs : ∀ i ∈ g.slots, i ∈ vs) (dj : Dj G1 F) (k0 : Kp (jn G0 F) H0 (jn G1 F) H1) (rs : RS X.K (jn G1 F) H1 τ σ) (rb : RB B X.K (jn G0 F) H0)
    (rg : RG X.K (jn G1 F) H1) (hJ : JM X.K J ws alive (jn G1 F) H1) (h : mComp alive g tt Te (wipeM τ vs) ws [] G1 fun acc G2 => newL own acc G2 q) : ∀ D, H1 D = none → ∃ W : Nat → Nat → Hp → Prop, (∃ m, W 0 m (upd H1 D (.lst []))) ∧ ∀ i m H, W i m H →
      (J.stop i H ∧ Po X.K F G0 H0 q (.ref D) H) ∨ (J.go i H ∧ ∃ Nx : Hp → Prop, (∀ H', Nx H' → ∃ m', m' < m ∧ W (i + 1) m' H') ∧ ∀ x H', J.yld i H x H' → g.t X.K x (wipe σ vs) H' fun σ2 H2 => wipe σ2 vs = wipe σ vs ∧ liftT B X.K tt σ2 H2 fun b H3 =>
        if b = true then liftE B X.K Te σ2 H3 fun y H4 => ∃ acc, H4 D = some (.lst acc) ∧ acc.length < sizeLine ∧ Nx (upd H4 D (.lst (acc ++ [y]))) else Nx H3) := by
  intro D hD
  have hfr := jn_free (rg.fresh hD)
  let FD : List ML.D → Gp := fun acc => jn (one D (.lst acc)) F
  have jf : ∀ {G : Gp} {acc : List ML.D}, G D = none → jn G (FD acc) = put (jn G F) D (.lst acc) := fun h => jn_one h
  let In : List ML.D → List ML.D → Gp → Hp → Prop := fun acc rest G' H' => Dj G' (FD acc) ∧ Kp (jn G1 F) H1 (jn G' (FD acc)) H' ∧ RG X.K (jn G' (FD acc)) H' ∧ RS X.K (jn G' (FD acc)) H' (wipeM τ vs) (wipe σ vs) ∧ mComp alive g tt Te (wipeM τ vs) rest acc G' fun acc G2 => newL own acc G2 q
  have k1 : Kp (jn G1 F) H1 (jn G1 (FD [])) (upd H1 D (.lst [])) := by rw [jf hfr.1]; exact kp_own hD
  refine ⟨fun i m H' => m = ws.length - i ∧ i ≤ ws.length ∧ ∃ acc G', In acc (ws.drop i) G' H', ⟨ws.length, by simp, Nat.zero_le _, [], G1, dj_one dj hfr.1, k1, ?_, (rs.kp k1).wipe vs, h⟩, ?_⟩
  · rw [jf hfr.1]
    exact rg_own rg hD rfl
  rintro i m H ⟨rfl, hi, acc, G', dG, k2, rg2, rs2, hm⟩
  have hG' := dj_one' dG
  have atD : ∀ {G : Gp} {acc : List ML.D}, G D = none → (jn G (FD acc)) D = some (.lst acc) := fun h => by rw [jn_none h]; exact jn_some one_same
  by_cases hlt : i < ws.length
  · rw [List.drop_eq_getElem_cons hlt] at hm
    obtain ⟨al, hm⟩ := hm
    obtain ⟨go, yl⟩ := (hJ.at_ i _ H k2 rg2 (hJ.mono _ _ al)).1 ws[i] (List.getElem?_eq_getElem hlt)
    refine .inr ⟨go, fun H' => ∃ acc G', In acc (ws.drop (i + 1)) G' H', fun H' z => ⟨ws.length - (i + 1), by omega, rfl, hlt, z⟩, fun x H' y => ?_⟩
    obtain ⟨k3, rg3, r3⟩ := yl x H' y
    refine GT.tmono g x _ H' _ _ (GT.ok g ws[i] x (wipeM τ vs) (wipe σ vs) _ rg3 r3 (rs2.kp k3) hm) ?_
    intro σ2 H2 ⟨e2, ⟨τ2, rs3, h3⟩, hw⟩
    rw [e2]
    have kA := k2.trans k3
    refine ⟨(hw vs hs).trans (wipe_wipe σ vs vs fun _ z => z), τ2, G', FD acc, _, dG, rs3, ⟨rg3, rb.kp.trans (k0.trans kA)⟩, h3, fun b H3 ⟨G3, d3, k4, rg4, h4⟩ => ?_⟩
    cases b with
    | false =>
      rw [if_neg Bool.false_ne_true]
      exact ⟨acc, G3, d3, kA.trans k4, rg4, (rs2.kp k3).kp k4, h4⟩
    | true =>
      rw [if_pos rfl]
      refine ⟨τ2, G3, FD acc, _, d3, rs3.kp k4, ⟨rg4, rb.kp.trans (k0.trans (kA.trans k4))⟩, h4, fun y H4 ⟨yw, G4, d4, k5, rg5, r5, hz, h5⟩ => ?_⟩
      have g4 := dj_one' d4
      obtain ⟨lv, hv, rl⟩ := rg5 D _ (atD g4.2)
      have eq : jn G4 (FD (acc ++ [yw])) = put (jn G4 (FD acc)) D (.lst (acc ++ [yw])) := by rw [jf g4.2, jf g4.2, put_put]
      have k6 : Kp (jn G4 (FD acc)) H4 (jn G4 (FD (acc ++ [yw]))) (upd H4 D (.lst (lv ++ [y]))) := by rw [eq]; exact kp_put (atD g4.2)
      refine ⟨lv, hv, by rw [rl.length]; exact hz, acc ++ [yw], G4, dj_one g4.1 g4.2, ((kA.trans k4).trans k5).trans k6, ?_, (((rs2.kp k3).kp k4).kp k5).kp k6, h5⟩
      rw [eq]
      exact rg_put rg5 (atD g4.2) (rl.append (.cons r5 .nil))
  · have e : i = ws.length := by omega
    subst e
    rw [List.drop_length] at hm
    refine .inl ⟨(hJ.at_ _ _ H k2 rg2 (hJ.mono _ _ hm.1)).2 rfl, ?_⟩
    obtain ⟨lv, hv, rl⟩ := rg2 D _ (atD hG'.2)
    have eR : jn G' (FD acc) = put (jn G' F) D (.lst acc) := jf hG'.2
    cases own with
    | true =>
      refine ⟨.ref D, put G' D (.lst acc), dj_put hG'.1 hfr.2, ?_, ?_, rfl, hm.2 D hG'.2⟩
      · rw [jn_put, ← eR]; exact k0.trans k2
      · rw [jn_put, ← eR]; exact rg2
    | false =>
      have nD : (jn G' F) D = none := by rw [jn_none hG'.2]; exact hfr.2
      rw [eR] at k2 rg2 rl
      exact ⟨.lst acc, G', hG'.1, (k0.trans k2).trans kp_drop, rg_drop nD rg2, ⟨D, lv, rfl, ⟨nD, hv⟩, rl.kp kp_drop⟩, hm.2⟩
theorem m_lc {elt iter : Expr} {ifs : List Expr} {scope : Scope} {own : List (Str × Nat)} {wi : TIm} {g : GT} {tt : TTm} {Te : TEm} (ow : Bool) (hc : X.calm = true) (hN : X.N.Nodup) (hi : MI B X tg iter wi) (ok : BlkOk X.N X.env.scope scope own) (hs : ∀ i ∈ g.slots, i ∈ own.map (·.2))
    (hg : ∀ (s : Shared) (H : Hp) (C : Addr) (cl : List (Str × Addr)) (fp : List Addr), MG (X.blk s H scope (compEnvC scope cl C X.env) fp) tg g) (ht : ∀ (s : Shared) (H : Hp) (C : Addr) (cl : List (Str × Addr)) (fp : List Addr), MPTs B (X.blk s H scope (compEnvC scope cl C X.env) fp) ifs tt)
    (he : ∀ (s : Shared) (H : Hp) (C : Addr) (cl : List (Str × Addr)) (fp : List Addr), ME B (X.blk s H scope (compEnvC scope cl C X.env) fp) elt Te) (hf : ∀ x, foldedSetIterable iter X.env x = pure x := by intro _; rfl) :
    ME B X (.ListComp elt [⟨tg, iter, ifs, 0⟩] scope pos) (mLc ow wi g tt Te (own.map (·.2))) :=
  me_of (pe_lc (g := g.t X.K) (tt := liftT B X.K tt) (te := liftE B X.K Te) hc hN hi ok hg (fun a b c d e => (ht a b c d e).pts) he hf) fun σ H τ G F q dj rs rg h => ⟨τ, G, F, _, dj, rs, rg, h, fun J H1 ws alive G1 d1 k1 rg1 hJ h1 => comp_lift hs d1 k1 (rs.kp k1) rg rg1 hJ h1⟩
/-- y = [..] -/
theorem ms_setLc {i : Nat} {y : Str} {py spos : Pos} {elt iter : Expr} {ifs : List Expr} {scope : Scope} {own : List (Str × Nat)} {wi : TIm} {g : GT} {tt : TTm} {Te : TEm} (ow : Bool) (hc : X.calm = true) (hN : X.N.Nodup) (hy : X.N[i]? = some y) (hyl : X.env.scope.names.lookup y = some .local)
    (hsw : swapsWith (.ListComp elt [⟨tg, iter, ifs, 0⟩] scope pos) (some (.Name y py)) spos.line X.env = pure true) (hi : MI B X tg iter wi) (ok : BlkOk X.N X.env.scope scope own) (hs : ∀ i ∈ g.slots, i ∈ own.map (·.2))
    (hg : ∀ (s : Shared) (H : Hp) (C : Addr) (cl : List (Str × Addr)) (fp : List Addr), MG (X.blk s H scope (compEnvC scope cl C X.env) fp) tg g) (ht : ∀ (s : Shared) (H : Hp) (C : Addr) (cl : List (Str × Addr)) (fp : List Addr), MPTs B (X.blk s H scope (compEnvC scope cl C X.env) fp) ifs tt)
    (he : ∀ (s : Shared) (H : Hp) (C : Addr) (cl : List (Str × Addr)) (fp : List Addr), ME B (X.blk s H scope (compEnvC scope cl C X.env) fp) elt Te) (hf : ∀ x, foldedSetIterable iter X.env x = pure x := by intro _; rfl) :
    MS B X (.Assign [.Name y py] (.ListComp elt [⟨tg, iter, ifs, 0⟩] scope pos) spos) (mAsg (mLc ow wi g tt Te (own.map (·.2))) (.nm i)) :=
  ms_of (ps_setLc (g := g.t X.K) (tt := liftT B X.K tt) (te := liftE B X.K Te) hc hN hy hyl hsw hi ok hg (fun a b c d e => (ht a b c d e).pts) he hf) fun σ H τ G F d dj rs rg h => ⟨τ, G, F, _, dj, rs, rg, h, fun J H1 ws alive G1 d1 k1 rg1 hJ h1 D hD => by
    obtain ⟨W, w0, hW⟩ := comp_lift (q := fun w G2 => d.nx (τ.set i (some w)) G2) hs d1 k1 (rs.kp k1) rg rg1 hJ h1 D hD
    refine ⟨W, w0, fun j m H' hw => ?_⟩
    rcases hW j m H' hw with ⟨st, p⟩ | z
    · refine .inl ⟨st, ?_⟩
      obtain ⟨w, G', d', k, rg', r, hq⟩ := p
      exact ⟨_, G', d', k, rg', (rs.kp k).set r i, hq⟩
    · exact .inr z⟩
end
end ML

set_option maxRecDepth 100000
namespace ML
open PySem PySem.Spec L2
open PyProof.Rows hiding St

/-! ### room, and nothing under way that guards itself -/
structure Rm (k : Nat) (A : Around) : Prop where
  room : Room k A
  gd : A.guards = some []
theorem Rm.mono {j k : Nat} {A : Around} (r : Rm k A) (h : j ≤ k) : Rm j A := ⟨r.room.mono h, r.gd⟩
theorem Rm.deeper {k : Nat} {A : Around} (r : Rm (k + 1) A) (env : Env) : Rm k (A.deeper env) := ⟨r.room.deeper env, r.gd⟩
theorem Rm.hu {k : Nat} {A : Around} (r : Rm k A) : A.units + 64 < cLine := r.room.units
theorem Rm.make {k : Nat} {A : Around} (r : Rm (k + 1) A) (C : Addr) (us : List Value) (kw : List (Str × Value)) : Rm k (A.under (.builtin "type.__call__" ⟨.ref C :: us, kw⟩)) :=
  ⟨r.room.make C us kw, by
    have e : (A.under (.builtin "type.__call__" ⟨.ref C :: us, kw⟩)).guards = pushGuards (Code.guards (.builtin "type.__call__" ⟨.ref C :: us, kw⟩)) A.guards := rfl
    have e2 : Code.guards (.builtin "type.__call__" ⟨.ref C :: us, kw⟩) = [] := by
      unfold Code.guards
      rw [if_neg]
      first | decide | (simp [Code.isGuard, guardIds])
    rw [e, e2, r.gd]; rfl⟩

/-! ### contracts -/
abbrev MX := Value → List (Str × D) → Gp → Prop
abbrev MSp := List D → Gp → MK → MX → Prop
def XD (K : PySem.W.Frag) (R : Gp) (H : Hp) (d : Option Addr) (fs : List (Str × D)) : Prop := match d with
  | none => fs = []
  | some x => R x = none ∧ ∃ gs, H x = some (.xd gs) ∧ RF K R H fs gs
theorem XD.kp {K : PySem.W.Frag} {R R' : Gp} {H H' : Hp} {d : Option Addr} {fs : List (Str × D)} (k : Kp R H R' H') (h : XD K R H d fs) : XD K R' H' d fs := by
  cases d with
  | none => exact h
  | some x => obtain ⟨g, gs, e, r⟩ := h; obtain ⟨g', e'⟩ := k _ _ g e; exact ⟨g', gs, e', r.kp k⟩
def PoX (K : PySem.W.Frag) (F G : Gp) (H : Hp) (E : MX) : XK := fun cls d H' => ∃ fs G', Dj G' F ∧ Kp (jn G F) H (jn G' F) H' ∧ RG K (jn G' F) H' ∧ XD K (jn G' F) H' d fs ∧ E cls fs G'
def noX : MX := fun _ _ _ => False
structure FnG (P : Program) (w : World) (K : PySem.W.Frag) (mg : Str → Option Value) (base : Heap) (k : Nat) (f : Addr) (fd : FuncData) (ps : List Str) (sp : MSp) : Prop where
  len : ∀ ws G Q E, sp ws G Q E → ws.length = ps.length
  run : ∀ (A : Around) (outer : List Env) (s : Shared) (H : Hp) (args : Args) (us : List Value) (vs : List V) (ws : List D) (G F : Gp) (Q : MK) (E : MX), Rm k A → Env0 P w K mg base A outer s H → BindsTo s fd args (ps.zip us) → Vals vs us →
    Dj G F → RG K (jn G F) H → RpL K (jn G F) H ws vs → sp ws G Q E → codeAny (model P w) A (.call (.ref f) args) (CR (L2.CX P w) outer P w H s (Po K F G H Q) (PoX K F G H E)) s
section
variable {P : Program} {w : World} {K : PySem.W.Frag} {mg : Str → Option Value} {base : Heap} {f : Addr} {fd : FuncData} {ps : List Str} {sp sp' : MSp}
theorem FnG.mono {j k : Nat} (F : FnG P w K mg base j f fd ps sp) (h : j ≤ k) : FnG P w K mg base k f fd ps sp := ⟨F.len, fun A outer s H args us vs ws G Fr Q E hr => F.run A outer s H args us vs ws G Fr Q E (hr.mono h)⟩
theorem FnG.imp {k : Nat} (F : FnG P w K mg base k f fd ps sp) (h : ∀ ws G Q E, sp' ws G Q E → sp ws G Q E) : FnG P w K mg base k f fd ps sp' :=
  ⟨fun ws G Q E z => F.len ws G Q E (h _ _ _ _ z), fun A outer s H args us vs ws G Fr Q E hr e0 hb r dj rg rp hs => F.run A outer s H args us vs ws G Fr Q E hr e0 hb r dj rg rp (h _ _ _ _ hs)⟩
end

/-! ### what is no longer of use -/
def Sub (G G' : Gp) : Prop := ∀ a o, G a = some o → G' a = some o
theorem Sub.refl (G : Gp) : Sub G G := fun _ _ h => h
theorem Sub.trans {G G' G2 : Gp} (a : Sub G G') (b : Sub G' G2) : Sub G G2 := fun c o h => b c o (a c o h)
theorem Sub.new {G : Gp} {p : Addr} {o : MO} (h : G p = none) : Sub G (put G p o) := fun a u e => by
  have ne : a ≠ p := by rintro rfl; rw [h] at e; cases e
  rw [put_ne ne]; exact e
theorem Sub.dj {G G' F : Gp} (h : Sub G G') (d : Dj G' F) : Dj G F := fun a o e => d a o (h a o e)
theorem Sub.jn {G G' F : Gp} (h : Sub G G') (d : Dj G' F) : Sub (jn G F) (jn G' F) := fun a o e => by
  cases e1 : G a with
  | some u => rw [jn_some e1] at e; cases e; exact jn_some (h a _ e1)
  | none =>
    rw [jn_none e1] at e
    cases e2 : G' a with
    | none => rw [jn_none e2]; exact e
    | some u => rw [d a u e2] at e; cases e
theorem Sub.kp {R R' : Gp} {H : Hp} (h : Sub R R') : Kp R' H R H := fun a o g e => by
  refine ⟨?_, e⟩
  cases q : R a with
  | none => rfl
  | some u => rw [h a u q] at g; cases g
theorem Sub.rg {K : PySem.W.Frag} {R R' : Gp} {H : Hp} (h : Sub R R') (rg : RG K R' H) : RG K R H := fun a u e => (rg a u (h a u e)).kp_same h.kp fun _ z => z
/-- what is returned, some of the rest forgotten; an own list may be returned as a value -/
def less (q : MK) : MK := fun w G' => ∃ G2, Sub G2 G' ∧ (q w G2 ∨ ∃ p ws, w = .ref p ∧ G' p = some (.lst ws) ∧ G2 p = none ∧ q (.lst ws) G2)
theorem Po.less {K : PySem.W.Frag} {F G : Gp} {H : Hp} {q : MK} {v : V} {H' : Hp} (h : Po K F G H (less q) v H') : Po K F G H q v H' := by
  obtain ⟨w, G', d, k, rg, r, G2, s, z | ⟨p, ws, ew, gp, g2, z⟩⟩ := h
  · exact ⟨w, G2, s.dj d, k.trans (s.jn d).kp, (s.jn d).rg rg, r.kp (s.jn d).kp, z⟩
  · subst ew
    obtain ⟨vs, hv, rl⟩ := rg p _ (jn_some gp)
    have hn : (jn G2 F) p = none := by rw [jn_none g2]; exact d p _ gp
    exact ⟨.lst ws, G2, s.dj d, k.trans (s.jn d).kp, (s.jn d).rg rg, ⟨p, vs, r, ⟨hn, hv⟩, rl.kp (s.jn d).kp⟩, z⟩

/-! ### a def keeps its contract -/
def startM (N : List Str) (ws : List D) : Sl := ws.map some ++ List.replicate (N.length - ws.length) none
theorem rs_start {K : PySem.W.Frag} {R : Gp} {H : Hp} {N : List Str} {ws : List D} {vs : List V} (r : RpL K R H ws vs) : RS K R H (startM N ws) (L2.start N vs) := by
  unfold startM L2.start
  have hl := r.length
  refine ⟨by rw [List.length_append, List.length_append, List.length_map, List.length_map, List.length_replicate, List.length_replicate, hl], fun i w e => ?_⟩
  by_cases hi : i < ws.length
  · rw [List.getElem?_append_left (by simpa using hi), List.getElem?_map] at e
    cases q : ws[i]? with
    | none => rw [q] at e; cases e
    | some u =>
      rw [q] at e
      cases e
      obtain ⟨v, hv, rv⟩ := r.get q
      exact ⟨v, by rw [List.getElem?_append_left (by simpa [hl] using hi), List.getElem?_map, hv]; rfl, rv⟩
  · rw [List.getElem?_append_right (by simpa using hi), List.getElem?_replicate] at e
    split at e <;> cases e
section
variable {P : Program} {w : World} {K : PySem.W.Frag} {mg : Str → Option Value} {base : Heap}
theorem fnG_of {k : Nat} {f : Addr} {name qual : Str} {params : Arguments} {body : List Stmt} {scope : Scope} {dV kV doc pm cdv ct oc : Value} {an od : Option Addr}
    {osl : Array (Option Value)} {N ps : List Str} {sp : MSp} (lk : K.lookup f = some ⟨oc, od, .func (PySem.W.fnOf name qual params body scope dV kV doc pm an cdv ct), osl⟩) (hcd : PySem.W.codeIn K cdv qual = true) (S : FnScope N ps scope)
    (len : ∀ ws G Q E, sp ws G Q E → ws.length = ps.length)
    (hbody : ∀ (A : Around) (outer : List Env) (s : Shared) (H : Hp) (G F : Gp) (ws : List D) (Q : MK) (E : MX), Rm k (A.deeper (envOfC qual scope s.heap.objs.size f cdv)) → sp ws G Q E →
      ∃ T, MSs ⟨jn G F, H⟩ (cxOf (L2.CX P w) P w K mg base N qual scope f cdv A outer s H (PoX K F G H E)) body T ∧ T { nx := fun _ G' => less Q .non G', rt := less Q } (startM N ws) G) :
    FnG P w K mg base (k + 1) f (PySem.W.fnOf name qual params body scope dV kV doc pm an cdv ct) ps sp := by
  refine ⟨len, fun A outer s H args us vs ws G F Q E hr e0 hb r dj rg rp hsp => ?_⟩
  have hl : vs.length = ps.length := rp.length.trans (len _ _ _ _ hsp)
  have KX : K.In s.heap := e0.mod.kin.keeps fun b o e => (e0.bs b o e).1
  have lim : s.heap.NoLimit := e0.mod.nolimit.keeps fun b o e => (e0.bs b o e).1
  have hkind : ∀ y ∈ ps.zip us, scope.names.lookup y.1 = some .local ∨ (scope.names.lookup y.1 = some .cell ∧ ((cellsFrom (s.heap.objs.size + 1) scope.names []).lookup y.1).isSome = true) := fun ⟨n, v⟩ hy => by
    rcases S.par n (List.of_mem_zip hy).1 with q | q
    · exact .inl q
    · exact .inr ⟨q, PySem.W.cellsFrom_some _ _ _ (.inl q)⟩
  refine codeAny_call_function hr.room.depth (KX _ _ lk) rfl S.co S.gen rfl (PySem.W.codeRec_of KX hcd) (hb _ _ _ _ ?_)
  refine wpAny_newFunctionEnv_cells S.kind hkind fun env he s1 x => ?_
  subst he
  refine ⟨lim.keeps x.toInCall.keep, codeAny_func ?_⟩
  obtain ⟨T, ht, hq⟩ := hbody A outer s H G F ws Q E (hr.deeper _) hsp
  have I : Inv (cxOf (L2.CX P w) P w K mg base N qual scope f cdv A outer s H (PoX K F G H E)) [] (L2.start N vs) H s1 := inv_start S hr.room.hd e0 hl r x
  have le : EndsLe (liftD K F G H { nx := fun _ G' => less Q .non G', rt := less Q }) { nx := fun _ H' => Po K F G H Q .non H', rt := Po K F G H Q } :=
    ⟨fun σ' H' ⟨τ', G', d, k1, rg', rs', z⟩ => Po.less ⟨.non, G', d, k1, rg', rfl, z⟩, fun v H' z => Po.less z, fun σ' H' ⟨τ', G', d, k1, rg', rs', z⟩ => z, fun σ' H' ⟨τ', G', d, k1, rg', rs', z⟩ => z⟩
  refine wpAny_mono (ht.run [] s1 (L2.start N vs) H { nx := fun _ H' => Po K F G H Q .non H', rt := Po K F G H Q } I ⟨startM N ws, G, F, _, dj, rs_start rp, ⟨rg, Kp.refl _ _⟩, hq, le⟩) (fun fl s' hs => ?_) fun e s' hs => hs
  have fin : ∀ {σ' : St} {H' : Hp} {v : V} {u : Value}, Inv (cxOf (L2.CX P w) P w K mg base N qual scope f cdv A outer s H (PoX K F G H E)) [] σ' H' s' → RelV v u → Po K F G H Q v H' → CE outer P w H s (Po K F G H Q) u s' :=
    fun {σ' H' v u} J rv q => ⟨v, H', J.os, J.bare, J.base, J.hok, rv, q⟩
  cases fl with
  | ret u =>
    obtain ⟨v, σ', H', J, rv, q⟩ := hs
    exact fin J rv q
  | next =>
    obtain ⟨σ', H', J, q⟩ := hs
    exact fin (v := V.non) (u := Value.none) J rfl q
  | brk =>
    obtain ⟨_, _, _, q⟩ := hs
    exact False.elim q
  | cont =>
    obtain ⟨_, _, _, q⟩ := hs
    exact False.elim q
theorem MSs.nox {B : Bs} {X : Cx} {sts : List Stmt} {T : TSm} (h : MSs B X.nox sts T) : MSs B X sts T := PSs.nox h
/-- a def that lets nothing out -/
theorem fnG_mk {x qual : Str} {st : Stmt} {f : Addr} {fd : FuncData} {N ps : List Str} {k : Nat} {sp : MSp} (F : Fun K x qual st f fd) (S : FnScope N ps (defScope st)) (len : ∀ ws G Q E, sp ws G Q E → ws.length = ps.length)
    (hbody : ∀ (cdv : Value) (A : Around) (outer : List Env) (s : Shared) (H : Hp) (G Fr : Gp) (ws : List D) (Q : MK) (E : MX), Rm k (A.deeper (envOfC qual (defScope st) s.heap.objs.size f cdv)) → sp ws G Q E →
      ∃ T, MSs ⟨jn G Fr, H⟩ (cxOf (L2.CX P w) P w K mg base N qual (defScope st) f cdv A outer s H (PoX K Fr G H E)).nox (defBody st) T ∧ T { nx := fun _ G' => less Q .non G', rt := less Q } (startM N ws) G) : FnG P w K mg base (k + 1) f fd ps sp := by
  obtain ⟨oc, od, kV, doc, pm, an, cdv, ct, osl, rfl, lk, hcd⟩ := F.ex
  refine fnG_of lk hcd S len fun A outer s H G Fr ws Q E hr hsp => ?_
  obtain ⟨T, h, q⟩ := hbody cdv A outer s H G Fr ws Q E hr hsp
  exact ⟨T, h.nox, q⟩
theorem fnG_mkX {x qual : Str} {st : Stmt} {f : Addr} {fd : FuncData} {N ps : List Str} {k : Nat} {sp : MSp} (F : Fun K x qual st f fd) (S : FnScope N ps (defScope st)) (len : ∀ ws G Q E, sp ws G Q E → ws.length = ps.length)
    (hbody : ∀ (cdv : Value) (A : Around) (outer : List Env) (s : Shared) (H : Hp) (G Fr : Gp) (ws : List D) (Q : MK) (E : MX), Rm k (A.deeper (envOfC qual (defScope st) s.heap.objs.size f cdv)) → sp ws G Q E →
      ∃ T, MSs ⟨jn G Fr, H⟩ (cxOf (L2.CX P w) P w K mg base N qual (defScope st) f cdv A outer s H (PoX K Fr G H E)) (defBody st) T ∧ T { nx := fun _ G' => less Q .non G', rt := less Q } (startM N ws) G) : FnG P w K mg base (k + 1) f fd ps sp := by
  obtain ⟨oc, od, kV, doc, pm, an, cdv, ct, osl, rfl, lk, hcd⟩ := F.ex
  exact fnG_of lk hcd S len fun A outer s H G Fr ws Q E hr hsp => hbody cdv A outer s H G Fr ws Q E hr hsp
end

/-! ### calls -/
/-- what this body wants of an exception of a callee -/
def PassM (X : Cx) (E : XK) : Prop := ∀ (pins : List (Addr × Obj)) (σ : St) (H : Hp) (s : Shared) (e : Value) (s' : Shared), Inv X pins σ H s → L2.CX X.prog X.w X.stack H s E e s' → X.xe e s'
theorem pass_no {X : Cx} {K : PySem.W.Frag} {F G : Gp} {H : Hp} : Passes (L2.CX X.prog X.w) X (PoX K F G H noX) := fun _ _ _ _ _ _ _ ⟨_, _, _, _, _, _, _, _, _, _, _, _, _, _, _, _, _, _, z⟩ => z.elim
section
variable {B : Bs} {X : Cx} {k : Nat} {f C : Addr} {fd : FuncData} {ps : List Str} {sp : MSp} {x : Str} {p pos : Pos} {e : Expr} {es : List Expr} {Tl : TAm}
theorem run_fnG {pins : List (Addr × Obj)} {σ : St} {H : Hp} {s : Shared} {args : Args} {us : List Value} {vs : List V} {ws : List D} {G F : Gp} {q : MK} {E : MX} (Fn : FnG X.prog X.w X.K X.mg X.base k f fd ps sp) (hr : Rm k X.A) (hb : BindsTo s fd args (ps.zip us))
    (hx : Passes (L2.CX X.prog X.w) X (PoX X.K F G H E)) (I : Inv X pins σ H s) (r : Vals vs us) (dj : Dj G F) (rg : RG X.K (jn G F) H) (rp : RpL X.K (jn G F) H ws vs) (h : sp ws G q E) : wpAny (model X.prog X.w) X.A (call (.ref f) args.pos args.kw) (EP X pins σ (Po X.K F G H q)) X.xe s := by
  refine wpAny_call (codeAny_mono (Fn.run X.A X.stack s H args us vs ws G F q E hr I.env0 hb r dj rg rp h) fun r s' hq => ?_)
  cases r with
  | error e => exact hx pins σ H s e s' I hq
  | ok fl =>
    cases fl with
    | ret u => exact I.after hq
    | next => exact False.elim hq
    | brk => exact False.elim hq
    | cont => exact False.elim hq
end
end ML

set_option maxRecDepth 100000
namespace ML
open PySem PySem.Spec L2
open PyProof.Rows hiding St

/-! ### calls of the program's own defs -/
def mCall (sp : MSp) (E : MX) (Tl : TAm) : TEm := fun τ G q => Tl τ G fun ws G1 => sp ws G1 q E
section
variable {B : Bs} {X : Cx} {k n : Nat} {f C : Addr} {fd : FuncData} {ps ks : List Str} {sp : MSp} {x : Str} {p pos kpos : Pos} {e : Expr} {es : List Expr} {Tl Tk : TAm} {Te : TEm} {kws : List Keyword} {nm : Option Str} {E : MX}
/-- what this body lets out of a callee -/
def PassX (X : Cx) (E : MX) : Prop := ∀ F G H, Passes (L2.CX X.prog X.w) X (PoX X.K F G H E)
theorem passX_no : PassX X noX := fun _ _ _ => pass_no
theorem m_callE (hx : PassX X E) (Fn : FnG X.prog X.w X.K X.mg X.base k f fd ps sp) (hr : Rm k X.A) (hg : Gl X x) (hm : X.mg x = some (.ref f)) (hk : PySem.W.keepIn X.K (.ref f) = true) (hb : Binds X.K fd ps []) (ha : MA B X (e :: es) Tl)
    (hdb : (x == ("__debug__" : Str)) = false := by decide) (he : starEach (e :: es) X.env = (false, eval e X.env) :: starEach es X.env := by rfl) (hpl : (backTo pos (starEach es X.env)).any (·.1) = false := by rfl) : ME B X (.Call (.Name x p) (e :: es) [] pos) (mCall sp E Tl) := by
  refine ⟨fun pins s σ H Q I ⟨τ, G, F, q, dj, rs, rb, h, c⟩ => ?_⟩
  refine wpAny_Call_Name_kw (ld_glob I hg hm ?_ hdb)
  refine PySem.W.callWith_K (h₀ := X.base) I.ok.mod.kin hk (thn (ha.run pos pins s σ H (PoA X.K F G H _) I ⟨τ, G, F, _, dj, rs, rb, h, fun _ _ z => z⟩) fun us s1 ⟨vs, H1, I1, r, ws, G1, d1, k1, rg1, rp1, hsp⟩ => ⟨I1.kIn, ?_⟩) he hpl
  have hl : (us ++ []).length = ps.length := by rw [List.append_nil, ← r.length, rp1.length]; exact Fn.len _ _ _ _ hsp
  have hb1 := hb s1 us I1.kIn hl
  rw [List.append_nil] at hb1
  exact thn (run_fnG (args := ⟨us, []⟩) Fn hr hb1 (hx F G1 H1) I1 r d1 rg1 rp1 hsp) fun u s2 z => EP.to z fun v H2 z => c v H2 (z.behind k1)
theorem m_call0E (hx : PassX X E) (Fn : FnG X.prog X.w X.K X.mg X.base k f fd ps sp) (hr : Rm k X.A) (hg : Gl X x) (hm : X.mg x = some (.ref f)) (hk : PySem.W.keepIn X.K (.ref f) = true) (hb : Binds X.K fd ps [])
    (hdb : (x == ("__debug__" : Str)) = false := by decide) : ME B X (.Call (.Name x p) [] [] pos) (mCall sp E mNil) := by
  refine ⟨fun pins s σ H Q I ⟨τ, G, F, q, dj, rs, rb, h, c⟩ => ?_⟩
  refine wpAny_Call_Name_kw (ld_glob I hg hm ?_ hdb)
  have hl : ([] ++ [] : List Value).length = ps.length := Fn.len _ _ _ _ (show sp [] G q E from h)
  have hb1 := hb s [] I.kIn hl
  refine PySem.W.callWith_K0 I.kIn hk ?_
  exact thn (run_fnG (args := ⟨[], []⟩) Fn hr hb1 (hx F G H) I .nil dj rb.rg .nil (show sp [] G q E from h)) fun u s2 z => EP.to z fun v H2 z => c v H2 z
theorem m_call (Fn : FnG X.prog X.w X.K X.mg X.base k f fd ps sp) (hr : Rm k X.A) (hg : Gl X x) (hm : X.mg x = some (.ref f)) (hk : PySem.W.keepIn X.K (.ref f) = true) (hb : Binds X.K fd ps []) (ha : MA B X (e :: es) Tl)
    (hdb : (x == ("__debug__" : Str)) = false := by decide) (he : starEach (e :: es) X.env = (false, eval e X.env) :: starEach es X.env := by rfl) (hpl : (backTo pos (starEach es X.env)).any (·.1) = false := by rfl) : ME B X (.Call (.Name x p) (e :: es) [] pos) (mCall sp noX Tl) :=
  m_callE passX_no Fn hr hg hm hk hb ha hdb he hpl
theorem m_call0 (Fn : FnG X.prog X.w X.K X.mg X.base k f fd ps sp) (hr : Rm k X.A) (hg : Gl X x) (hm : X.mg x = some (.ref f)) (hk : PySem.W.keepIn X.K (.ref f) = true) (hb : Binds X.K fd ps [])
    (hdb : (x == ("__debug__" : Str)) = false := by decide) : ME B X (.Call (.Name x p) [] [] pos) (mCall sp noX mNil) := m_call0E passX_no Fn hr hg hm hk hb hdb

/-! ### keywords -/
def MK' (B : Bs) (X : Cx) (kws : List Keyword) (T : TAm) : Prop := PK X kws (liftA B X.K T)
theorem mk_nil : MK' B X [] mNil := ⟨fun pos pins s σ H Q I ⟨τ, G, F, q, dj, rs, rb, h, c⟩ => (pk_nil (X := X)).run pos pins s σ H Q I (show Q [] H from c [] H ⟨[], G, dj, Kp.refl _ _, rb.rg, rfl, h⟩)⟩
theorem mk_cons (ha : ME B X e Te) (hr : MK' B X kws Tk) : MK' B X (⟨nm, e, kpos⟩ :: kws) (mCons Te Tk) := by
  refine ⟨fun pos pins s σ H Q I ⟨τ, G, F, q, dj, rs, rb, h, c⟩ => ?_⟩
  refine (pk_cons ha hr).run pos pins s σ H Q I ⟨τ, G, F, _, dj, rs, rb, h, fun x H1 ⟨w, G1, d1, k1, rg1, r1, h1⟩ => ⟨τ, G1, F, _, d1, rs.kp k1, rb.go k1 rg1, h1, fun vs H2 ⟨ws, G2, d2, k2, rg2, r2, h2⟩ => ?_⟩⟩
  exact c _ _ ⟨w :: ws, G2, d2, k1.trans k2, rg2, .cons (r1.kp k2) r2, h2⟩
def mCallK (sp : MSp) (E : MX) (g : List D → List D → List D) (n m : Nat) (Tl Tk : TAm) : TEm := fun τ G q => Tl τ G fun ws G1 => Tk τ G1 fun us G2 => ws.length = n ∧ us.length = m ∧ sp (g ws us) G2 q E
/-- how the values of a call with keywords are put in order -/
structure KB (K : PySem.W.Frag) (fd : FuncData) (ps : List Str) (n : Nat) (ks : List Str) (gv : List Value → List Value → List Value) (gV : List V → List V → List V) (gD : List D → List D → List D) : Prop where
  kb : KBn K fd ps n ks gv gV
  dd : ∀ {G : Gp} {H : Hp} {ws us : List D} {vs zs : List V}, RpL K G H ws vs → RpL K G H us zs → RpL K G H (gD ws us) (gV vs zs)
theorem m_callKE {gv : List Value → List Value → List Value} {gV : List V → List V → List V} {gD : List D → List D → List D} (hx : PassX X E) (Fn : FnG X.prog X.w X.K X.mg X.base k f fd ps sp) (hr : Rm k X.A) (hg : Gl X x) (hm : X.mg x = some (.ref f)) (hk : PySem.W.keepIn X.K (.ref f) = true)
    (hb : KB X.K fd ps n ks gv gV gD) (ha : MA B X (e :: es) Tl) (hkw : MK' B X kws Tk) (hall : (backToKw pos (keywordEach kws X.env)).all (·.1.isSome) = true := by rfl) (hks : (backToKw pos (keywordEach kws X.env)).filterMap (·.1) = ks := by rfl)
    (hdb : (x == ("__debug__" : Str)) = false := by decide) (he : starEach (e :: es) X.env = (false, eval e X.env) :: starEach es X.env := by rfl)
    (hpl : ((backTo pos (starEach (e :: es) X.env)).any (·.1) || (backToKw pos (keywordEach kws X.env)).any (·.1.isNone)) = false := by rfl) : ME B X (.Call (.Name x p) (e :: es) kws pos) (mCallK sp E gD n ks.length Tl Tk) := by
  refine ⟨fun pins s σ H Q I ⟨τ, G, F, q, dj, rs, rb, h, c⟩ => ?_⟩
  refine wpAny_Call_Name_kw (ld_glob I hg hm ?_ hdb)
  refine PySem.W.callWith_KW (h₀ := X.base) I.ok.mod.kin hk hall (thn (ha.run pos pins s σ H (PoA X.K F G H _) I ⟨τ, G, F, _, dj, rs, rb, h, fun _ _ z => z⟩) fun us s1 ⟨vs, H1, I1, r, ws, G1, d1, k1, rg1, rp1, h1⟩ => ?_) hpl he
  refine thn (hkw.run pos pins s1 σ H1 (PoA X.K F G1 H1 _) I1 ⟨τ, G1, F, _, d1, rs.kp k1, rb.go k1 rg1, h1, fun _ _ z => z⟩) fun us2 s2 ⟨zs, H2, I2, rz, ws2, G2, d2, k2, rg2, rp2, l1, l2, hsp⟩ => ⟨I2.kIn, ?_⟩
  rw [hks]
  have r1 : us.length = n := by rw [← r.length, rp1.length]; exact l1
  have r2 : us2.length = ks.length := by rw [← rz.length, rp2.length]; exact l2
  exact thn (run_fnG (args := ⟨us, ks.zip us2⟩) Fn hr (hb.kb.to s2 us us2 I2.kIn r1 r2) (hx F G2 H2) I2 (hb.kb.rel r rz) d2 rg2 (hb.dd (rp1.kp k2) rp2) hsp) fun u s3 z => EP.to z fun v H3 z => c v H3 (z.behind (k1.trans k2))
theorem m_callK0E {gv : List Value → List Value → List Value} {gV : List V → List V → List V} {gD : List D → List D → List D} (hx : PassX X E) (Fn : FnG X.prog X.w X.K X.mg X.base k f fd ps sp) (hr : Rm k X.A) (hg : Gl X x) (hm : X.mg x = some (.ref f)) (hk : PySem.W.keepIn X.K (.ref f) = true)
    (hb : KB X.K fd ps 0 ks gv gV gD) (hkw : MK' B X kws Tk) (hall : (backToKw pos (keywordEach kws X.env)).all (·.1.isSome) = true := by rfl) (hks : (backToKw pos (keywordEach kws X.env)).filterMap (·.1) = ks := by rfl)
    (hdb : (x == ("__debug__" : Str)) = false := by decide)
    (hpl : ((backTo pos (starEach [] X.env)).any (·.1) || (backToKw pos (keywordEach kws X.env)).any (·.1.isNone)) = false := by rfl) : ME B X (.Call (.Name x p) [] kws pos) (mCallK sp E gD 0 ks.length mNil Tk) := by
  refine ⟨fun pins s σ H Q I ⟨τ, G, F, q, dj, rs, rb, h, c⟩ => ?_⟩
  refine wpAny_Call_Name_kw (ld_glob I hg hm ?_ hdb)
  refine PySem.W.callWith_KW0 (h₀ := X.base) I.ok.mod.kin hk hall ?_ hpl
  refine thn (hkw.run pos pins s σ H (PoA X.K F G H _) I ⟨τ, G, F, _, dj, rs, rb, h, fun _ _ z => z⟩) fun us2 s2 ⟨zs, H2, I2, rz, ws2, G2, d2, k2, rg2, rp2, l1, l2, hsp⟩ => ⟨I2.kIn, ?_⟩
  rw [hks]
  have r2 : us2.length = ks.length := by rw [← rz.length, rp2.length]; exact l2
  exact thn (run_fnG (args := ⟨[], ks.zip us2⟩) Fn hr (hb.kb.to s2 [] us2 I2.kIn rfl r2) (hx F G2 H2) I2 (hb.kb.rel .nil rz) d2 rg2 (hb.dd .nil rp2) hsp) fun u s3 z => EP.to z fun v H3 z => c v H3 (z.behind k2)
end

/-! ### built-in functions -/
abbrev M1 := List D → Gp → MK → Prop
def liftC (K : PySem.W.Frag) (r : M1) : List V → Hp → VK → Prop := fun vs H Q => ∃ ws G F q, Dj G F ∧ RG K (jn G F) H ∧ RpL K (jn G F) H ws vs ∧ r ws G q ∧ ∀ v H', Po K F G H q v H' → Q v H'
def CM (X : Cx) (f : Value) (r : M1) : Prop := CallR X f (liftC X.K r)
theorem cm_of {X : Cx} {f : Value} {r : M1} {r0 : List V → Hp → VK → Prop} (h : CallR X f r0) (k : ∀ ws vs G F H q, Dj G F → RG X.K (jn G F) H → RpL X.K (jn G F) H ws vs → r ws G q → r0 vs H (Po X.K F G H q)) : CM X f r :=
  fun pins s σ H vs us Q I rv ⟨ws, G, F, q, dj, rg, rp, hr, c⟩ => thn (h pins s σ H vs us _ I rv (k ws vs G F H q dj rg rp hr)) fun u s' z => EP.to z c
theorem cm_or {X : Cx} {f : Value} {r r' : M1} (h : CM X f r) (h' : CM X f r') : CM X f fun ws G q => r ws G q ∨ r' ws G q := fun pins s σ H vs us Q I rv ⟨ws, G, F, q, dj, rg, rp, hr, c⟩ => by
  rcases hr with hr | hr
  · exact h pins s σ H vs us Q I rv ⟨ws, G, F, q, dj, rg, rp, hr, c⟩
  · exact h' pins s σ H vs us Q I rv ⟨ws, G, F, q, dj, rg, rp, hr, c⟩
def mCB (r : M1) (Tl : TAm) : TEm := fun τ G q => Tl τ G fun ws G1 => r ws G1 q
section
variable {B : Bs} {X : Cx} {x : Str} {p pos : Pos} {e : Expr} {es : List Expr} {Tl : TAm} {id T : String} {r : M1}
theorem m_callB (hc : CM X (.builtin id) r) (hg : Gl X x) (hm : X.mg x = none) (hv : bootBuiltins x = some (.builtin id)) (ha : MA B X (e :: es) Tl) (hn : x ≠ "__name__" := by decide) (hdb : (x == ("__debug__" : Str)) = false := by decide)
    (he : starEach (e :: es) X.env = (false, eval e X.env) :: starEach es X.env := by rfl) (hpl : (backTo pos (starEach es X.env)).any (·.1) = false := by rfl) : ME B X (.Call (.Name x p) (e :: es) [] pos) (mCB r Tl) :=
  me_of (pe_callB hc hg hm hv ha hn hdb he hpl) fun σ H τ G F q dj rs rg h => ⟨τ, G, F, _, dj, rs, rg, h, fun vs H1 ⟨ws, G1, d1, k1, rg1, r1, h1⟩ => ⟨ws, G1, F, q, d1, rg1, r1, h1, fun v H2 z => z.behind k1⟩⟩
theorem m_callTy (hc : CM X (.type T) r) (hg : Gl X x) (hm : X.mg x = none) (hv : bootBuiltins x = some (.type T)) (ha : MA B X (e :: es) Tl) (hn : x ≠ "__name__" := by decide) (hdb : (x == ("__debug__" : Str)) = false := by decide)
    (he : starEach (e :: es) X.env = (false, eval e X.env) :: starEach es X.env := by rfl) (hpl : (backTo pos (starEach es X.env)).any (·.1) = false := by rfl) : ME B X (.Call (.Name x p) (e :: es) [] pos) (mCB r Tl) :=
  me_of (pe_callTy hc hg hm hv ha hn hdb he hpl) fun σ H τ G F q dj rs rg h => ⟨τ, G, F, _, dj, rs, rg, h, fun vs H1 ⟨ws, G1, d1, k1, rg1, r1, h1⟩ => ⟨ws, G1, F, q, d1, rg1, r1, h1, fun v H2 z => z.behind k1⟩⟩
/-! the functions -/
def mAbs : M1 := fun ws G q => match ws with
  | [.int i] => q (.int (if i < 0 then -i else i)) G
  | _ => False
theorem RpL.int1 {K : PySem.W.Frag} {G : Gp} {H : Hp} {i : Int} {vs : List V} (h : RpL K G H [.int i] vs) : vs = [.int i] := by
  obtain ⟨v, e, r⟩ := RpL.one h
  cases (show v = .int i from r)
  exact e
theorem RpL.int2 {K : PySem.W.Frag} {G : Gp} {H : Hp} {i j : Int} {vs : List V} (h : RpL K G H [.int i, .int j] vs) : vs = [.int i, .int j] := by
  obtain ⟨v, v', e, r, r'⟩ := RpL.two h
  cases (show v = .int i from r)
  cases (show v' = .int j from r')
  exact e
theorem c_abs : CM X (.builtin "abs") mAbs := cm_of call_abs fun ws vs G F H q dj rg rp h => by
  unfold mAbs at h
  split at h
  · exact ⟨_, rp.int1, Po.here (w := .int _) dj rg rfl h⟩
  · exact False.elim h
def mMax2 : M1 := fun ws G q => match ws with
  | [.int i, .int j] => q (.int (if j > i then j else i)) G
  | _ => False
theorem c_max2 (hc : X.calm = true) : CM X (.builtin "max") mMax2 := cm_of (call_max2 hc) fun ws vs G F H q dj rg rp h => by
  unfold mMax2 at h
  split at h
  · exact ⟨_, _, rp.int2, Po.here (w := .int _) dj rg rfl h⟩
  · exact False.elim h
def mMin2 : M1 := fun ws G q => match ws with
  | [.int i, .int j] => q (.int (if j < i then j else i)) G
  | _ => False
theorem c_min2 (hc : X.calm = true) : CM X (.builtin "min") mMin2 := cm_of (call_min2 hc) fun ws vs G F H q dj rg rp h => by
  unfold mMin2 at h
  split at h
  · exact ⟨_, _, rp.int2, Po.here (w := .int _) dj rg rfl h⟩
  · exact False.elim h
def mInt : M1 := fun ws G q => match ws with
  | [.int i] => q (.int i) G
  | [.bl k] => q (.int (if k then 1 else 0)) G
  | _ => False
theorem c_int : CM X (.type "int") mInt := cm_of call_int1 fun ws vs G F H q dj rg rp h => by
  unfold mInt at h
  split at h
  · exact .inl ⟨_, rp.int1, Po.here (w := .int _) dj rg rfl h⟩
  · rename_i k
    obtain ⟨v, e, r⟩ := RpL.one rp
    cases (show v = .bl k from r)
    exact .inr ⟨k, e, Po.here (w := .int _) dj rg rfl h⟩
  · exact False.elim h
def mStr : M1 := fun ws G q => match ws with
  | [.int i] => i.natAbs.log2 < 1920 ∧ q (.str (toString i)) G
  | [.str a] => q (.str a) G
  | [.non] => q (.str "None") G
  | _ => False
theorem call_str_non : CallR X (.type "str") (fun xs H Q => xs = [.non] ∧ Q (.str "None") H) := by
  intro pins s σ H xs us Q I r h
  obtain ⟨rfl, q⟩ := h
  obtain ⟨u, rfl, ru⟩ := vals1 r
  cases ru
  exact PySem.P.str_of_none ⟨.str _, H, I.tok _, ⟨_, rfl⟩, q⟩
theorem c_str : CM X (.type "str") mStr := cm_of ((call_str_int.or SkE.call_str_str).or call_str_non) fun ws vs G F H q dj rg rp h => by
  unfold mStr at h
  split at h
  · exact .inl (.inl ⟨_, rp.int1, h.1, Po.here (w := .str _) dj rg rfl h.2⟩)
  · rename_i a
    obtain ⟨v, e, r⟩ := RpL.one rp
    cases (show v = .str a from r)
    exact .inl (.inr ⟨a, e, Po.here (w := .str _) dj rg rfl h⟩)
  · obtain ⟨v, e, r⟩ := RpL.one rp
    cases (show v = .non from r)
    exact .inr ⟨e, Po.here (w := .str _) dj rg rfl h⟩
  · exact False.elim h
def mLen : M1 := fun ws G q => match ws with
  | [.str z] => z.length ≤ sizeLine ∧ q (.int (z.length : Int)) G
  | [w] => ∃ xs, SeqOf G w xs ∧ q (.int (xs.length : Int)) G
  | _ => False
theorem c_len : CM X (.builtin "len") mLen := cm_of call_len fun ws vs G F H q dj rg rp h => by
  unfold mLen at h
  split at h
  · rename_i z
    obtain ⟨v, e, r⟩ := RpL.one rp
    cases (show v = .str z from r)
    exact ⟨_, _, e, ⟨h.1, rfl⟩, Po.here (w := .int _) dj rg rfl h.2⟩
  · obtain ⟨xs, hs, h⟩ := h
    obtain ⟨v, e, r⟩ := RpL.one rp
    obtain ⟨p, ys, ev, sq, rl⟩ := hs.at rg r
    subst ev
    rw [← rl.length] at h
    refine ⟨_, ys.length, e, ?_, Po.here (w := .int _) dj rg rfl h⟩
    rcases sq with sq | sq
    · exact .inl ⟨ys, sq, rfl⟩
    · exact .inr ⟨ys, sq, rfl⟩
  · exact False.elim h
/-- list(xs) -/
def mList (own : Bool) : M1 := fun ws G q => match ws with
  | [w] => ∃ xs, SeqOf G w xs ∧ newL own xs G q
  | _ => False
theorem c_list (own : Bool) : CM X (.type "list") (mList own) := cm_of call_list_of fun ws vs G F H q dj rg rp h => by
  unfold mList at h
  split at h
  · obtain ⟨xs, hs, h⟩ := h
    obtain ⟨v, e, r⟩ := RpL.one rp
    obtain ⟨p, ys, ev, sq, rl⟩ := hs.at rg r
    subst ev
    exact ⟨p, ys, e, sq, fun l hl => new_lst dj rg hl rl h⟩
  · exact False.elim h
/-- tuple(xs) -/
def mTupl : M1 := fun ws G q => match ws with
  | [w] => ∃ xs, SeqOf G w xs ∧ q (.tup xs) G
  | _ => False
theorem SeqOf.tup {K : PySem.W.Frag} {F G : Gp} {H : Hp} {x : D} {ws : List D} {v : V} (h : SeqOf G x ws) (rg : RG K (jn G F) H) (r : Rp K (jn G F) H x v) :
    (∃ p vs, v = .ref p ∧ SqL K H p vs ∧ RpL K (jn G F) H ws vs) ∨ (x = .tup ws ∧ ∃ p vs, v = .ref p ∧ SqT K H p vs) := by
  cases x with
  | lst us => cases h; obtain ⟨p, vs, e, a, r⟩ := r; exact .inl ⟨p, vs, e, a.sq, r⟩
  | fz us => cases h; obtain ⟨p, vs, e, a, r⟩ := r; exact .inl ⟨p, vs, e, a.sq, r⟩
  | tup us => cases h; obtain ⟨p, vs, e, a, r⟩ := r; exact .inr ⟨rfl, p, vs, e, a.sq⟩
  | ref a => obtain ⟨vs, hv, rv⟩ := rg a _ (jn_some h); exact .inl ⟨a, vs, r, .inl (.inl hv), rv⟩
  | _ => exact False.elim h
theorem c_tuple : CM X (.type "tuple") mTupl := cm_of call_tuple_of fun ws vs G F H q dj rg rp h => by
  unfold mTupl at h
  split at h
  · obtain ⟨xs, hs, h⟩ := h
    obtain ⟨v, e, r⟩ := RpL.one rp
    rcases hs.tup rg r with ⟨p, ys, ev, sq, rl⟩ | ⟨ex, p, ys, ev, sq⟩
    · subst ev
      exact ⟨p, ys, e, .inl ⟨sq, fun l hl => new_tup dj rg hl rl h⟩⟩
    · subst ev
      subst ex
      exact ⟨p, ys, e, .inr ⟨sq, Po.here dj rg r h⟩⟩
  · exact False.elim h

/-! ### list(range(..)), tuple(range(..)) -/
def mRg1 (Ta : TEm) (f : Int → Int → Gp → Prop) (τ : Sl) (G : Gp) : Prop := Ta τ G fun x G1 => match x with
  | .int j => f 0 j G1
  | _ => False
theorem rgV_rp {K : PySem.W.Frag} {G : Gp} {H : Hp} (a b : Int) : RpL K G H (rng a (b - a).toNat) (rgV a b) := by
  unfold rng rgV
  generalize List.range (b - a).toNat = l
  induction l with
  | nil => exact .nil
  | cons x l ih => exact .cons rfl ih
def mLstRg1 (own : Bool) (Ta : TEm) : TEm := fun τ G q => Ta τ G fun x G1 => match x with
  | .int j => RgOk 0 j ∧ newL own (rng 0 j.toNat) G1 q
  | _ => False
def mTupRg1 (Ta : TEm) : TEm := fun τ G q => Ta τ G fun x G1 => match x with
  | .int j => RgOk 0 j ∧ q (.tup (rng 0 j.toNat)) G1
  | _ => False
theorem m_listRg1 (own : Bool) {a : Expr} {Ta : TEm} {p p2 pos pos2 : Pos} (hc : X.calm = true) (hg : Gl X "list") (hm : X.mg "list" = none) (hg2 : Gl X "range") (hm2 : X.mg "range" = none) (ha : ME B X a Ta) (na : starEach [a] X.env = (false, eval a X.env) :: starEach [] X.env := by rfl)
    (nb : starEach [.Call (.Name "range" p2) [a] [] pos2] X.env = (false, eval (.Call (.Name "range" p2) [a] [] pos2) X.env) :: starEach [] X.env := by rfl) : ME B X (.Call (.Name "list" p) [.Call (.Name "range" p2) [a] [] pos2] [] pos) (mLstRg1 own Ta) :=
  me_of (pe_listRg hc hg hm (prg_1 hg2 hm2 ha na) nb) fun σ H τ G F q dj rs rg h => ⟨τ, G, F, _, dj, rs, rg, h, fun v H1 ⟨w, G1, d1, k1, rg1, r1, h1⟩ => by
    cases w with
    | int j =>
      cases (show v = .int j from r1)
      have hp := rgV_rp (K := X.K) (G := jn G1 F) (H := H1) 0 j
      rw [Int.sub_zero] at hp
      exact ⟨j, rfl, h1.1, fun l hl => (new_lst d1 rg1 hl hp h1.2).behind k1⟩
    | _ => exact False.elim h1⟩
theorem m_tupRg1 {a : Expr} {Ta : TEm} {p p2 pos pos2 : Pos} (hc : X.calm = true) (hg : Gl X "tuple") (hm : X.mg "tuple" = none) (hg2 : Gl X "range") (hm2 : X.mg "range" = none) (ha : ME B X a Ta) (na : starEach [a] X.env = (false, eval a X.env) :: starEach [] X.env := by rfl)
    (nb : starEach [.Call (.Name "range" p2) [a] [] pos2] X.env = (false, eval (.Call (.Name "range" p2) [a] [] pos2) X.env) :: starEach [] X.env := by rfl) : ME B X (.Call (.Name "tuple" p) [.Call (.Name "range" p2) [a] [] pos2] [] pos) (mTupRg1 Ta) :=
  me_of (pe_tupRg hc hg hm (prg_1 hg2 hm2 ha na) nb) fun σ H τ G F q dj rs rg h => ⟨τ, G, F, _, dj, rs, rg, h, fun v H1 ⟨w, G1, d1, k1, rg1, r1, h1⟩ => by
    cases w with
    | int j =>
      cases (show v = .int j from r1)
      have hp := rgV_rp (K := X.K) (G := jn G1 F) (H := H1) 0 j
      rw [Int.sub_zero] at hp
      exact ⟨j, rfl, h1.1, fun l hl => (new_tup d1 rg1 hl hp h1.2).behind k1⟩
    | _ => exact False.elim h1⟩

/-! ### repr -/
def mRepr : M1 := fun ws G q => match ws with
  | [.tup xs] => (okD (.tup xs) = true ∧ dep (.tup xs) ≤ 60 ∧ (pd (.tup xs)).showable = true ∧ (pd (.tup xs)).hasDict = false ∧ (pd (.tup xs)).depth ≤ 60 ∧ (pd (.tup xs)).shown.length ≤ sizeLine) ∧ q (.str (pd (.tup xs)).shown) G
  | _ => False
theorem c_repr {k : Nat} (hr : Rm k X.A) : CM X (.builtin "repr") mRepr := fun pins s σ H vs us Q I rv ⟨ws, G, F, q, dj, rg, rp, h, c⟩ => by
  unfold mRepr at h
  split at h
  · rename_i xs
    obtain ⟨⟨h1, h2, h3, h4, h5, h6⟩, h⟩ := h
    obtain ⟨v, e, r⟩ := RpL.one rp
    subst e
    have hdp := dp_of _ _ h1 r
    obtain ⟨p, zs, ev, _, _⟩ := id r
    subst ev
    obtain ⟨u, eu, ru⟩ := vals1 rv
    subst eu
    cases ru
    obtain ⟨as, hrd⟩ := Dp.reads I _ _ _ hdp rfl
    exact repr_of_reads' hrd h3 (fun z => by rw [h4] at z; cases z) hr.gd (by have := hr.hu; omega) (fun _ _ z => z) (fun h' u tk hk => ⟨.str _, H, I.kept hk, ⟨_, rfl⟩, c _ _ (Po.here (w := .str _) dj rg rfl h)⟩) h6
  · exact False.elim h
end

/-! ### methods of built-in types -/
abbrev M2' := D → List D → Gp → MK → Prop
def liftM (K : PySem.W.Frag) (r : M2') : V → List V → Hp → VK → Prop := fun x vs H Q => ∃ w ws G F q, Dj G F ∧ RG K (jn G F) H ∧ Rp K (jn G F) H w x ∧ RpL K (jn G F) H ws vs ∧ r w ws G q ∧ ∀ v H', Po K F G H q v H' → Q v H'
def MM (X : Cx) (id : String) (r : M2') : Prop := MtR X id (liftM X.K r)
theorem mm_of {X : Cx} {id : String} {r : M2'} {r0 : V → List V → Hp → VK → Prop} (h : MtR X id r0) (k : ∀ w x ws vs G F H q, Dj G F → RG X.K (jn G F) H → Rp X.K (jn G F) H w x → RpL X.K (jn G F) H ws vs → r w ws G q → r0 x vs H (Po X.K F G H q)) : MM X id r :=
  fun pins s σ H x vs v us Q I rx rv ⟨w, ws, G, F, q, dj, rg, rw', rp, hr, c⟩ => thn (h pins s σ H x vs v us _ I rx rv (k w x ws vs G F H q dj rg rw' rp hr)) fun u s' z => EP.to z c
theorem mm_or {X : Cx} {id : String} {r r' : M2'} (h : MM X id r) (h' : MM X id r') : MM X id fun w ws G q => r w ws G q ∨ r' w ws G q := fun pins s σ H x vs v us Q I rx rv ⟨w, ws, G, F, q, dj, rg, rw', rp, hr, c⟩ => by
  rcases hr with hr | hr
  · exact h pins s σ H x vs v us Q I rx rv ⟨w, ws, G, F, q, dj, rg, rw', rp, hr, c⟩
  · exact h' pins s σ H x vs v us Q I rx rv ⟨w, ws, G, F, q, dj, rg, rw', rp, hr, c⟩
def tyD (T : String) (w : D) (G : Gp) : Prop := match w with
  | .str _ => T = "str"
  | .int _ => T = "int"
  | .lst _ => T = "list"
  | .fz _ => T = "list"
  | .ref a => T = "list" ∧ ∃ xs, G a = some (.lst xs)
  | _ => False
theorem tyD.at {K : PySem.W.Frag} {F G : Gp} {H : Hp} {T : String} {w : D} {v : V} (h : tyD T w G) (rg : RG K (jn G F) H) (r : Rp K (jn G F) H w v) : tyV K T v H := by
  cases w with
  | str z => cases (show v = .str z from r); exact h
  | int z => cases (show v = .int z from r); exact h
  | lst us => obtain ⟨p, vs, e, a, r⟩ := r; subst e; exact .inl ⟨h, vs, a.sq⟩
  | fz us => obtain ⟨p, vs, e, a, r⟩ := r; subst e; exact .inl ⟨h, vs, a.sq⟩
  | ref a => cases (show v = .ref a from r); obtain ⟨e, xs, g⟩ := h; obtain ⟨vs, hv, _⟩ := rg a _ (jn_some g); exact .inl ⟨e, vs, .inl (.inl hv)⟩
  | _ => exact False.elim h
def mBM0 (T : String) (r : M2') (To : TEm) : TEm := fun τ G q => To τ G fun w G1 => tyD T w G1 ∧ r w [] G1 q
def mBM (T : String) (r : M2') (To : TEm) (Tl : TAm) : TEm := fun τ G q => To τ G fun w G1 => tyD T w G1 ∧ Tl τ G1 fun ws G2 => r w ws G2 q
section
variable {B : Bs} {X : Cx} {o e : Expr} {es : List Expr} {To : TEm} {Tl : TAm} {name : Str} {apos cpos : Pos} {T id : String} {r : M2'}
theorem m_bm0 (pa : PlainAttrs T) (slot : Slot T name id) (hty : typeOf (.builtin id) = pure (.type "method_descriptor")) (hm : MM X id r) (ho : ME B X o To)
    (hbase : attributeBase o name X.env (eval o X.env) = eval o X.env := by rfl) (hline : (apos.endLine == cpos.line) = true := by rfl) : ME B X (.Call (.Attribute o name apos) [] [] cpos) (mBM0 T r To) :=
  me_of (pe_bm0 pa slot hty hm ho hbase hline) fun σ H τ G F q dj rs rg h => ⟨τ, G, F, _, dj, rs, rg, h, fun v H1 ⟨w, G1, d1, k1, rg1, r1, h1⟩ => ⟨h1.1.at rg1 r1, w, [], G1, F, q, d1, rg1, r1, .nil, h1.2, fun v H2 z => z.behind k1⟩⟩
theorem m_bm (pa : PlainAttrs T) (slot : Slot T name id) (hty : typeOf (.builtin id) = pure (.type "method_descriptor")) (hm : MM X id r) (ho : ME B X o To) (ha : MA B X (e :: es) Tl)
    (hbase : attributeBase o name X.env (eval o X.env) = eval o X.env := by rfl)
    (hfew : ((backTo cpos (starEach (e :: es) X.env)).all (fun x => !x.1) && (backToKw cpos (keywordEach [] X.env)).all (fun x => x.1.isSome)
      && decide ((e :: es).length + ([] : List Keyword).length + (if ([] : List Keyword).isEmpty then 0 else 1) < 30)) = true := by rfl)
    (hline : (apos.endLine == cpos.line) = true := by rfl) (hs : starEach (e :: es) X.env = (false, eval e X.env) :: starEach es X.env := by rfl) (hplain : (backTo cpos (starEach es X.env)).any (·.1) = false := by rfl) :
    ME B X (.Call (.Attribute o name apos) (e :: es) [] cpos) (mBM T r To Tl) :=
  me_of (pe_bm pa slot hty hm ho ha hbase hfew hline hs hplain) fun σ H τ G F q dj rs rg h => ⟨τ, G, F, _, dj, rs, rg, h, fun v H1 ⟨w, G1, d1, k1, rg1, r1, h1⟩ => ⟨h1.1.at rg1 r1, τ, G1, F, _, d1, rs.kp k1, rg.go k1 rg1, h1.2, fun vs H2 ⟨ws, G2, d2, k2, rg2, r2, h2⟩ =>
    ⟨w, ws, G2, F, q, d2, rg2, r1.kp k2, r2, h2, fun v H3 z => z.behind (k1.trans k2)⟩⟩⟩
/-! the methods -/
def mAppend : M2' := fun w ws G q => match w, ws with
  | .ref a, [y] => ∃ xs, G a = some (.lst xs) ∧ xs.length < sizeLine ∧ q .non (put G a (.lst (xs ++ [y])))
  | _, _ => False
theorem mm_append : MM X "list.append" mAppend := mm_of mt_append fun w x ws vs G F H q dj rg rx rp h => by
  unfold mAppend at h
  split at h
  · rename_i a y
    obtain ⟨xs, g, hz, h⟩ := h
    obtain ⟨v, e, r⟩ := RpL.one rp
    obtain ⟨zs, hv, rl⟩ := rg a _ (jn_some g)
    obtain ⟨d', k', rg'⟩ := put_step dj rg g (rl.append (.cons r .nil))
    exact ⟨a, zs, v, rx, e, hv, by rw [rl.length]; exact hz, ⟨.non, _, d', k', rg', rfl, h⟩⟩
  · exact False.elim h
def mPop0 : M2' := fun w ws G q => match w, ws with
  | .ref a, [] => ∃ xs y, G a = some (.lst xs) ∧ xs[xs.length - 1]? = some y ∧ q y (put G a (.lst xs.dropLast))
  | _, _ => False
theorem mm_pop0 : MM X "list.pop" mPop0 := mm_of mt_pop fun w x ws vs G F H q dj rg rx rp h => by
  unfold mPop0 at h
  split at h
  · rename_i a
    obtain ⟨xs, y, g, hy, h⟩ := h
    cases (show vs = [] from rp)
    obtain ⟨zs, hv, rl⟩ := rg a _ (jn_some g)
    obtain ⟨d', k', rg'⟩ := put_step dj rg g rl.dropLast
    obtain ⟨v, ev, rv⟩ := rl.get hy
    exact ⟨a, zs, v, rx, rfl, hv, by rw [rl.length]; exact ev, ⟨y, _, d', k', rg', rv.kp k', h⟩⟩
  · exact False.elim h
def mPopAt : M2' := fun w ws G q => match w, ws with
  | .ref a, [.int i] => ∃ xs k y, G a = some (.lst xs) ∧ -(2 ^ 63) ≤ i ∧ i < 2 ^ 63 ∧ seqIndex? i xs.length = some k ∧ xs[k]? = some y ∧ q y (put G a (.lst (xs.eraseIdx k)))
  | _, _ => False
theorem mm_popAt : MM X "list.pop" mPopAt := mm_of mt_popAt fun w x ws vs G F H q dj rg rx rp h => by
  unfold mPopAt at h
  split at h
  · rename_i a i
    obtain ⟨xs, k, y, g, h1, h2, h3, hy, h⟩ := h
    obtain ⟨zs, hv, rl⟩ := rg a _ (jn_some g)
    obtain ⟨d', k', rg'⟩ := put_step dj rg g (rl.eraseIdx k)
    obtain ⟨v, ev, rv⟩ := rl.get hy
    exact ⟨a, zs, i, k, v, rx, rp.int1, hv, h1, h2, by rw [rl.length]; exact h3, ev, ⟨y, _, d', k', rg', rv.kp k', h⟩⟩
  · exact False.elim h
def mInsert : M2' := fun w ws G q => match w, ws with
  | .ref a, [.int i, y] => ∃ xs, G a = some (.lst xs) ∧ xs.length < sizeLine ∧ 0 ≤ i ∧ i < 2 ^ 63 ∧ q .non (put G a (.lst (xs.take i.toNat ++ [y] ++ xs.drop i.toNat)))
  | _, _ => False
theorem mm_insert : MM X "list.insert" mInsert := mm_of mt_insert fun w x ws vs G F H q dj rg rx rp h => by
  unfold mInsert at h
  split at h
  · rename_i a i y
    obtain ⟨xs, g, hz, h1, h2, h⟩ := h
    obtain ⟨v, v', e, r, r'⟩ := RpL.two rp
    cases (show v = .int i from r)
    obtain ⟨zs, hv, rl⟩ := rg a _ (jn_some g)
    obtain ⟨d', k', rg'⟩ := put_step dj rg g (((rl.take i.toNat).append (.cons r' .nil)).append (rl.drop i.toNat))
    exact ⟨a, zs, i, v', rx, e, hv, by rw [rl.length]; exact hz, h1, h2, ⟨.non, _, d', k', rg', rfl, h⟩⟩
  · exact False.elim h
/-- texts -/
def strsOf : List D → Option (List Str)
  | [] => some []
  | .str z :: r => (strsOf r).map (z :: ·)
  | _ :: _ => none
theorem strsOf_rp {K : PySem.W.Frag} {G : Gp} {H : Hp} : ∀ {ws : List D} {vs : List V} {ys : List Str}, strsOf ws = some ys → RpL K G H ws vs → vs = ys.map V.str
  | [], vs, ys, e, h => by cases e; exact h
  | w :: ws, vs, ys, e, h => by
    cases w with
    | str z =>
      unfold strsOf at e
      cases e2 : strsOf ws with
      | none => rw [e2] at e; cases e
      | some us =>
        rw [e2] at e
        cases e
        obtain ⟨v, r, e3, h1, h2⟩ := h
        cases (show v = .str z from h1)
        rw [e3, strsOf_rp e2 h2]; rfl
    | _ => cases e
theorem strsOf_map (ys : List Str) : strsOf (ys.map D.str) = some ys := by
  induction ys with
  | nil => rfl
  | cons y ys ih => rw [List.map_cons, strsOf, ih]; rfl
def mJoin : M2' := fun w ws G q => match w, ws with
  | .str a, [x] => ∃ xs ys, SeqOf G x xs ∧ strsOf xs = some ys ∧ (ys.map (·.length)).sum + ys.length * a.length ≤ 16777216 ∧ q (.str (Txt.join a ys)) G
  | _, _ => False
theorem mm_join : MM X "str.join" mJoin := mm_of mt_join fun w x ws vs G F H q dj rg rx rp h => by
  unfold mJoin at h
  split at h
  · rename_i a y
    obtain ⟨xs, ys, hs, es, hz, h⟩ := h
    obtain ⟨v, e, r⟩ := RpL.one rp
    obtain ⟨p, zs, ev, sq, rl⟩ := hs.at rg r
    rw [strsOf_rp es rl] at sq
    subst ev
    exact ⟨a, p, ys, rx, e, sq, hz, Po.here (w := .str _) dj rg rfl h⟩
  · exact False.elim h
end
end ML

set_option maxRecDepth 100000
namespace PySem
open Sem (wp)
open AutoSeq1 (wpAny_loadPart')
theorem ml_draws_tuple {prog : Program} {w : World} {A : Around} (hh : A.handled = none) (it l : Addr) (hne : l ≠ it) (items : Array Value) :
    Draws prog w A it [it, l] items.size (fun i v => items[i]? = some v) (fun i h => h.IsTupleIter it l i ∧ h.IsTuple l items) where
  live := fun _ _ st => let ⟨o, ho, _⟩ := st.1; ⟨o, ho⟩
  frame := fun _ _ _ st hk => ⟨st.1.at fun o e => hk it (by simp) o e, by obtain ⟨o, ho, r⟩ := st.2; exact ⟨o, hk l (by simp) o ho, r⟩⟩
  item := fun i s Q E hi st hQ => by
    refine RZ.nextOf_tuple_item st.1 st.2 (x := items[i]) (by simp [hi]) fun h' hit' hs' => ?_
    exact hQ _ h' s.toks (by simp [hi]) ⟨hit', st.2.extBut hs'.extBut hne⟩ hs'
  done := fun s Q E st hE => RZ.nextOf_tuple_end hh st.1 st.2 (by simp) fun h' e hs' he => hE h' e hs' he
theorem ml_meets_enumerate_newT (l : Addr) (items : Array Value) (n : Nat) (dct : Option Addr) (sl : Array (Option Value)) :
    Meets (Builtin.«enumerate.__new__» ⟨[.type "enumerate", .ref l], []⟩) (fun _ R s => s.heap.get? l = some { cls := .type "tuple", dict := dct, data := .seq items n, slots := sl } ∧
      R (.ok (.ret (.ref (s.heap.push { cls := .type "tuple_iterator", data := .fields #[.ref l, .int 0 0] }).objs.size)))
        { s with heap := (s.heap.push { cls := .type "tuple_iterator", data := .fields #[.ref l, .int 0 0] }).push { cls := .type "enumerate", data := .fields #[.none, .bool false, .ref s.heap.objs.size, rawInt 0, .none, .none] } }) :=
  .of_wp fun prog w A R s h => by
    obtain ⟨hp, g, d, tk, os⟩ := s; obtain ⟨hl, h⟩ := h
    have hsub := sub_enumerate
    have hL : Heap.IsTuple (Shared.heap ⟨hp, g, d, tk, os⟩) l items := ⟨_, hl, rfl, n, rfl⟩
    wp_walk using wpAny_loadPart' hl
    refine wpAny_stack_any fun st => wpAny_pure ?_
    split
    · rename_i c _ _ _ _ _
      cases (c == Value.type "enumerate")
      · wp_walk using wpAny_loadPart' hl, wpAny_pyIter_tuple hL
        exact ⟨_, rfl, h⟩
      · wp_walk using wpAny_loadPart' hl, wpAny_pyIter_tuple hL
        exact ⟨_, rfl, h⟩
    · wp_walk using wpAny_loadPart' hl, wpAny_pyIter_tuple hL
      exact ⟨_, rfl, h⟩
section
variable {prog : Program} {w : World} {A : Around} {E : Value → Shared → Prop} {s : Shared}
theorem ml_call_enumerate_tuple {l : Addr} {items : Array Value} {Q : Value → Shared → Prop} (hL : s.heap.IsTuple l items)
    (h : ∀ h', IsEnum h' (s.heap.objs.size + 1) s.heap.objs.size 0 .none → h'.IsTupleIter s.heap.objs.size l 0 → h'.objs.size = s.heap.objs.size + 2 →
      (∀ b o, s.heap.get? b = some o → h'.get? b = some o) → Q (.ref (s.heap.objs.size + 1)) { s with heap := h' }) :
    wpAny (model prog w) A (call (.type "enumerate") [.ref l]) Q E s := by
  obtain ⟨⟨c, dct, dt, sl⟩, hl, hc, n, hd⟩ := hL
  replace hc : c = .type "tuple" := hc
  replace hd : dt = .seq items n := hd
  subst hc hd
  refine callType_new F.called_enumerate (by decide) (F.typeCall_enumerate_1 _) (F.newCall_enumerate_1 _) (fun obj => F.args_object_init_2 obj _) F.entry_enumerate_new
    (ml_meets_enumerate_newT l items n dct sl) ⟨hl, ?_⟩
  have hz : (s.heap.push { cls := .type "tuple_iterator", data := .fields #[.ref l, .int 0 0] }).objs.size = s.heap.objs.size + 1 := Heap.size_push ..
  show _ ∧ _
  rw [hz]
  have he : IsEnum ((s.heap.push { cls := .type "tuple_iterator", data := .fields #[.ref l, .int 0 0] }).push
      { cls := .type "enumerate", data := .fields #[.none, .bool false, .ref s.heap.objs.size, rawInt 0, .none, .none] }) (s.heap.objs.size + 1) s.heap.objs.size 0 .none := by
    have := Heap.get?_push_size (s.heap.push { cls := .type "tuple_iterator", data := .fields #[.ref l, .int 0 0] })
      (o := { cls := .type "enumerate", data := .fields #[.none, .bool false, .ref s.heap.objs.size, rawInt 0, .none, .none] }) rfl
    rw [hz] at this; exact this
  refine ⟨⟨_, he, rfl⟩, h _ he ⟨_, Heap.get?_push_of_some _ (Heap.get?_push_size _ rfl), rfl, rfl⟩ (by rw [Heap.size_push, hz]) fun b o x => Heap.get?_push_of_some _ (Heap.get?_push_of_some _ x)⟩
end
end PySem
namespace ML
open PySem PySem.Spec L2
open PyProof.Rows hiding St
/-- the tuple at a, each item in a new pair -/
def IteT (K : PySem.W.Frag) (a : Addr) : It :=
  ⟨fun i H => ∃ (xs : List V) (x : V), SqT K H a xs ∧ xs[i]? = some x, fun i H v H' => ∃ T x, v = .ref T ∧ H T = none ∧ H' = upd H T (.tup [.int (i : Nat), x]) ∧ ∀ xs, SqT K H a xs → xs[i]? = some x, fun i H => ∃ xs : List V, SqT K H a xs ∧ xs.length = i⟩
theorem turn_enumT {P : Program} {w : World} {K : PySem.W.Frag} {elts : List Expr} {kk : Nat} {tpos : Pos} (a e it : Addr) (hat : a ≠ it) :
    Turn P w K (.Tuple elts kk tpos) (IteT K a) [e, it] e (fun i h => (∃ old, IsEnum h e it ((i : Nat) : Int) old) ∧ h.IsTupleIter it a i ∧ e ≠ it ∧ a ≠ e) where
  mem := by simp
  obj := fun i h st b hb => by
    obtain ⟨⟨old, he⟩, ⟨o, ho, hc, hd⟩, _⟩ := st
    have e' : b = e ∨ b = it := by simpa using hb
    rcases e' with z | z
    · rw [z]; exact ⟨_, he, fun v q => nomatch q⟩
    · rw [z]; exact ⟨o, ho, fun v q => by rw [hd] at q; cases q⟩
  keep := fun i h h' st k => let ⟨⟨old, he⟩, hi, hne⟩ := st; ⟨⟨old, k e (by simp) _ he⟩, hi.at fun o q => k it (by simp) o q, hne⟩
  item := by
    intro X hP hw hK hc i pins s σ H E I hf st hg
    subst hP hw hK
    obtain ⟨⟨old, he⟩, hit, hne, hae⟩ := st
    obtain ⟨xs, x, hq, hx⟩ := hg
    obtain ⟨its, rv, p, hz⟩ := I.tuple hq
    obtain ⟨u, hu, ru⟩ := rv.get hx
    have hel : e < s.heap.objs.size := Heap.lt_size he
    have hil : it < s.heap.objs.size := by obtain ⟨_, q, _⟩ := hit; exact Heap.lt_size q
    have hlt : i < its.toArray.size := by
      have := (List.getElem?_eq_some_iff.mp hu).1
      simpa using this
    refine wpAny_pyNext_enum_itemD (fp := [it, a]) (PySem.ml_draws_tuple (A := X.A.in1) (I.ok.hd hc) it a hat its.toArray) he ⟨hit, (show s.heap.IsTuple a its.toArray from p)⟩ hlt hne (by simp; exact ⟨hne, fun z => hae z.symm⟩) fun x' h' tk hP' ho hst' hT hsz hk => ?_
    have ex : x' = u := by
      have h2 : its.toArray[i]? = some x' := hP'
      rw [List.getElem?_toArray, hu] at h2
      cases h2; rfl
    subst ex
    refine ⟨_, rfl, wpAny_letOwnedTupleGo_enum (s := { s with heap := h', toks := tk + 1 }) ho fun h'' he' sb => ?_⟩
    have hT2 : h''.get? s.heap.objs.size = some { cls := .type "tuple", data := .seq #[.int i tk, x'] } := (sb.2 _ (Nat.ne_of_gt hel)).trans hT
    have new : ObjOk X.prog X.w (upd H s.heap.objs.size (.tup [.int (i : Nat), x])) h'' s.heap.objs.size (.tup [.int (i : Nat), x]) :=
      ⟨by show 2 ≤ sizeLine; decide, [.int i tk, x'], .cons ⟨_, rfl⟩ (.cons ru .nil), ⟨_, hT2, rfl, _, rfl⟩⟩
    have I1 : Inv X pins σ (upd H s.heap.objs.size (.tup [.int (i : Nat), x])) { s with heap := h'', toks := tk + 1 } :=
      I.turnedNew (ch := [e, it]) (fun b ob hb q => (sb.2 b (fun z => hb (by simp [z]))).trans (hk b ob (fun z => hb (by simp [z])) (fun z => hb (by simp [z])) q)) hf (Nat.le_refl _) new
    refine ⟨.ref s.heap.objs.size, _, I1, rfl, ⟨_, x, rfl, I.hok.fresh (Nat.le_refl _), rfl, fun ys hy => by rw [I.tuple_inj hy hq]; exact hx⟩, ⟨⟨x', ?_⟩, hst'.1.at fun o q => (sb.2 it (Ne.symm hne)).trans q, hne, hae⟩, fun b hb => ?_⟩
    · have e1 : ((i + 1 : Nat) : Int) = (i : Int) + 1 := by omega
      rw [e1]; exact he'
    · have hb' : b < s.heap.objs.size := by
        have e' : b = e ∨ b = it := by simpa using hb
        rcases e' with z | z
        · rw [z]; exact hel
        · rw [z]; exact hil
      rw [upd_ne (Nat.ne_of_lt hb')]
      exact (hf b hb).1
  done := by
    intro X hP hw hK hc i pins s σ H E I hf st hg
    subst hP hw hK
    obtain ⟨⟨old, he⟩, hit, hne, hae⟩ := st
    obtain ⟨xs, hq, hx⟩ := hg
    obtain ⟨its, rv, p, hz⟩ := I.tuple hq
    obtain ⟨f0, f1, f2, f3, f4, f5⟩ := hf it (by simp)
    have hl := rv.length
    have hn : its.toArray.size = i := by simp; omega
    refine wpAny_pyNext_enum_endD (fp := [it, a]) (PySem.ml_draws_tuple (A := X.A.in1) (I.ok.hd hc) it a hat its.toArray) he ⟨by rw [hn]; exact hit, (show s.heap.IsTuple a its.toArray from p)⟩ fun h' eb => ⟨rfl, I.turned (t' := s.toks) (fun b o hb q => eb b o hb q) f0 f1 f3 f4 f5⟩
  self := fun A i s Q E st h => let ⟨⟨_, he⟩, _⟩ := st; wpAny_pyIter_enum he h
def iEnumA (K : PySem.W.Frag) (ta : TA) : TI := fun σ H R => ta σ H fun vs H1 => ∃ a xs, vs = [.ref a] ∧ ((SqL K H1 a xs ∧ R (Ite K a) H1) ∨ (SqT K H1 a xs ∧ R (IteT K a) H1))
theorem pi_enumA {X : Cx} {e : Expr} {ta : TA} {p pos tpos : Pos} {elts : List Expr} {kk : Nat} (hg : Gl X "enumerate") (hm : X.mg "enumerate" = none) (ha : PA X [e] ta) (hs : starEach [e] X.env = [(false, eval e X.env)] := by rfl) :
    PI X (.Tuple elts kk tpos) (.Call (.Name "enumerate" p) [e] [] pos) (iEnumA X.K ta) := by
  refine ⟨fun pins s σ H R I h => ?_⟩
  refine Call_ (ld_blt I hg hm boot_enumerate (PyProof.Rows.callWith_type1 (thn (ha.run pos pins s σ H _ I h) fun us s1 ⟨vs, H1, I1, r1, q1⟩ => ?_) hs rfl))
  obtain ⟨a, xs, ex, q⟩ := q1
  subst ex
  cases r1 with
  | cons r rr =>
    cases rr
    cases r
    have fp2 : ∀ b ∈ [s1.heap.objs.size + 1, s1.heap.objs.size], FpOk X pins H1 b := fun b hb => by
      have e' : b = s1.heap.objs.size + 1 ∨ b = s1.heap.objs.size := by simpa using hb
      have hle : s1.heap.objs.size ≤ b := by
        rcases e' with z | z
        · rw [z]; exact Nat.le_add_right _ _
        · rw [z]; exact Nat.le_refl _
      exact I1.fpOk hle (I1.hok.fresh hle)
    rcases q with ⟨hq, q⟩ | ⟨hq, q⟩
    · obtain ⟨its, rv, p', hz⟩ := I1.list hq
      refine call_enumerate_list p'.isList fun h' he hit hsz hk => wpAny_pyIter_enum he ?_
      have I2 : Inv X pins σ H1 { s1 with heap := h' } := I1.kept (t' := s1.toks) hk
      exact ⟨s1.heap.objs.size + 1, [s1.heap.objs.size + 1, s1.heap.objs.size], _, _, H1, rfl, I2, turn_enum a (s1.heap.objs.size + 1) s1.heap.objs.size, ⟨⟨.none, he⟩, hit, Nat.succ_ne_self _⟩, fp2, q⟩
    · obtain ⟨its, rv, p', hz⟩ := I1.tuple hq
      have ta' : s1.heap.IsTuple a its.toArray := p'
      have la : a < s1.heap.objs.size := by obtain ⟨o, ho, _⟩ := ta'; exact Heap.lt_size ho
      refine PySem.ml_call_enumerate_tuple ta' fun h' he hit hsz hk => wpAny_pyIter_enum he ?_
      have I2 : Inv X pins σ H1 { s1 with heap := h' } := I1.kept (t' := s1.toks) hk
      exact ⟨s1.heap.objs.size + 1, [s1.heap.objs.size + 1, s1.heap.objs.size], _, _, H1, rfl, I2, turn_enumT a (s1.heap.objs.size + 1) s1.heap.objs.size (Nat.ne_of_lt la), ⟨⟨.none, he⟩, hit, Nat.succ_ne_self _, Nat.ne_of_lt (Nat.lt_succ_of_lt la)⟩, fp2, q⟩
/-- numbered -/
def enumD (ws : List D) : List D := ws.mapIdx fun i w => .tup [.int (i : Nat), w]
theorem enumD_get {ws : List D} {i : Nat} {w : D} (h : (enumD ws)[i]? = some w) : ∃ x, ws[i]? = some x ∧ w = .tup [.int (i : Nat), x] := by
  unfold enumD at h
  rw [List.getElem?_mapIdx] at h
  cases e : ws[i]? with
  | none => rw [e] at h; cases h
  | some x => rw [e] at h; cases h; exact ⟨x, rfl, rfl⟩
theorem enumD_len {ws : List D} : (enumD ws).length = ws.length := List.length_mapIdx
def mEnum (Ta : TEm) : TIm := fun τ G r => Ta τ G fun x G1 => match x with
  | .tup ws => r (enumD ws) (fun _ => True) G1
  | .lst ws => r (enumD ws) (fun _ => True) G1
  | .fz ws => r (enumD ws) (fun _ => True) G1
  | .ref a => ∃ ws, G1 a = some (.lst ws) ∧ r (enumD ws) (fun G => G a = some (.lst ws)) G1
  | _ => False
theorem pair_new {K : PySem.W.Frag} {R : Gp} {H : Hp} {T : Addr} {w w' : D} {v v' : V} (rg : RG K R H) (hT : H T = none) (r : Rp K R H w v) (r' : Rp K R H w' v') :
    Kp R H R (upd H T (.tup [v, v'])) ∧ RG K R (upd H T (.tup [v, v'])) ∧ Rp K R (upd H T (.tup [v, v'])) (.tup [w, w']) (.ref T) :=
  ⟨kp_new hT, rg_new rg hT, T, [v, v'], rfl, .inl ⟨rg.fresh hT, upd_same⟩, .cons (r.kp (kp_new hT)) (.cons (r'.kp (kp_new hT)) .nil)⟩
theorem jm_enumT {K : PySem.W.Frag} {R0 : Gp} {H : Hp} {p : Addr} {ws : List D} {alive : Gp → Prop} (m : ∀ G F, alive G → alive (jn G F)) (h : ∀ R H', Kp R0 H R H' → RG K R H' → alive R → ∃ vs, SqT K H' p vs ∧ RpL K R H' ws vs) : JM K (IteT K p) (enumD ws) alive R0 H := ⟨m, fun i G' H' k rg al => by
  obtain ⟨vs, sq, rl⟩ := h G' H' k rg al
  refine ⟨fun w hw => ?_, fun hi => ⟨vs, sq, by rw [rl.length, ← enumD_len]; exact hi⟩⟩
  obtain ⟨x, hx, rfl⟩ := enumD_get hw
  obtain ⟨v, hv, rv⟩ := rl.get hx
  refine ⟨⟨vs, v, sq, hv⟩, fun x2 H2 ⟨T, x3, e, hT, eH, y⟩ => ?_⟩
  have : vs[i]? = some x3 := y vs sq
  rw [hv] at this
  cases this
  subst e
  subst eH
  exact pair_new rg hT rfl rv⟩
theorem jm_enumL {K : PySem.W.Frag} {R0 : Gp} {H : Hp} {p : Addr} {ws : List D} {alive : Gp → Prop} (m : ∀ G F, alive G → alive (jn G F)) (h : ∀ R H', Kp R0 H R H' → RG K R H' → alive R → ∃ vs, SqL K H' p vs ∧ RpL K R H' ws vs) : JM K (Ite K p) (enumD ws) alive R0 H := ⟨m, fun i G' H' k rg al => by
  obtain ⟨vs, sq, rl⟩ := h G' H' k rg al
  refine ⟨fun w hw => ?_, fun hi => ⟨vs, sq, by rw [rl.length, ← enumD_len]; exact Nat.le_of_eq hi⟩⟩
  obtain ⟨x, hx, rfl⟩ := enumD_get hw
  obtain ⟨v, hv, rv⟩ := rl.get hx
  refine ⟨⟨vs, v, sq, hv⟩, fun x2 H2 ⟨T, x3, e, hT, eH, y⟩ => ?_⟩
  have : vs[i]? = some x3 := y vs sq
  rw [hv] at this
  cases this
  subst e
  subst eH
  exact pair_new rg hT rfl rv⟩
section
variable {B : Bs} {X : Cx} {e e2 : Expr} {Te Te2 : TEm} {tpos : Pos} {elts : List Expr} {kk : Nat} {p pos : Pos}
theorem mi_enum (hg : Gl X "enumerate") (hm : X.mg "enumerate" = none) (ha : ME B X e Te) (hs : starEach [e] X.env = [(false, eval e X.env)] := by rfl) (hs0 : starEach [e] X.env = (false, eval e X.env) :: starEach [] X.env := by rfl) :
    MI B X (.Tuple elts kk tpos) (.Call (.Name "enumerate" p) [e] [] pos) (mEnum Te) :=
  pi_mono (pi_enumA hg hm (pa_cons ha pa_nil hs0) hs) fun σ H R ⟨τ, G, F, r, dj, rs, rb, h, c⟩ => ⟨τ, G, F, _, dj, rs, rb, h, fun v H1 ⟨w, G1, d1, k1, rg1, r1, h1⟩ => by
    cases w with
    | tup ws =>
      obtain ⟨p, vs, rfl, ht, rl⟩ := r1
      exact ⟨p, vs, rfl, .inr ⟨ht.sq, c _ H1 _ _ G1 d1 k1 rg1 (jm_enumT (fun _ _ h => h) fun G' H' k _ _ => ⟨vs, (ht.keep k).sq, rl.kp k⟩) h1⟩⟩
    | lst ws =>
      obtain ⟨p, vs, rfl, ht, rl⟩ := r1
      exact ⟨p, vs, rfl, .inl ⟨ht.sq, c _ H1 _ _ G1 d1 k1 rg1 (jm_enumL (fun _ _ h => h) fun G' H' k _ _ => ⟨vs, (ht.keep k).sq, rl.kp k⟩) h1⟩⟩
    | fz ws =>
      obtain ⟨p, vs, rfl, ht, rl⟩ := r1
      exact ⟨p, vs, rfl, .inl ⟨ht.sq, c _ H1 _ _ G1 d1 k1 rg1 (jm_enumL (fun _ _ h => h) fun G' H' k _ _ => ⟨vs, (ht.keep k).sq, rl.kp k⟩) h1⟩⟩
    | ref a =>
      obtain ⟨ws, g, h1⟩ := h1
      cases (show v = .ref a from r1)
      obtain ⟨vs, hv, rl⟩ := rg1 a _ (jn_some g)
      exact ⟨a, vs, rfl, .inl ⟨.inl (.inl hv), c _ H1 _ _ G1 d1 k1 rg1 (jm_enumL (fun _ _ h => jn_some h) fun G' H' k rg' al => by
        obtain ⟨vs', hv', rl'⟩ := rg' a _ al
        exact ⟨vs', .inl (.inl hv'), rl'⟩) h1⟩⟩
    | _ => exact False.elim h1⟩

/-! ### zip of two tuples -/
def zipD (xs ys : List D) : List D := List.zipWith (fun x y => .tup [x, y]) xs ys
theorem zipD_get {xs ys : List D} {i : Nat} {w : D} (h : (zipD xs ys)[i]? = some w) : ∃ x y, xs[i]? = some x ∧ ys[i]? = some y ∧ w = .tup [x, y] := by
  unfold zipD at h
  rw [List.getElem?_zipWith] at h
  cases e : xs[i]? with
  | none => rw [e] at h; cases h
  | some x =>
    cases e2 : ys[i]? with
    | none => rw [e, e2] at h; cases h
    | some y => rw [e, e2] at h; cases h; exact ⟨x, y, rfl, rfl, rfl⟩
theorem zipD_len {xs ys : List D} : (zipD xs ys).length = min xs.length ys.length := List.length_zipWith
def mZipT (Ta Tb : TEm) : TIm := fun τ G r => Ta τ G fun x G1 => Tb τ G1 fun y G2 => match x, y with
  | .tup xs, .tup ys => r (zipD xs ys) (fun _ => True) G2
  | .lst xs, .lst ys => r (zipD xs ys) (fun _ => True) G2
  | _, _ => False
theorem jm_zipT {K : PySem.W.Frag} {R0 : Gp} {H : Hp} {a b : Addr} {xs ys : List D} (h : ∀ R H', Kp R0 H R H' → ∃ vs us, SqT K H' a vs ∧ SqT K H' b us ∧ RpL K R H' xs vs ∧ RpL K R H' ys us) : JM K (RZ.ItzT K a b) (zipD xs ys) (fun _ => True) R0 H := ⟨fun _ _ h => h, fun i G' H' k rg _ => by
  obtain ⟨vs, us, sq, sq2, rl, rl2⟩ := h G' H' k
  refine ⟨fun w hw => ?_, fun hi => ⟨vs, us, sq, sq2, by rw [rl.length, rl2.length]; rw [zipD_len] at hi; omega⟩⟩
  obtain ⟨x, y, hx, hy, rfl⟩ := zipD_get hw
  obtain ⟨v, hv, rv⟩ := rl.get hx
  obtain ⟨u, hu, ru⟩ := rl2.get hy
  refine ⟨⟨vs, us, v, u, sq, sq2, hv, hu⟩, fun x2 H2 ⟨T, x3, y3, e, hT, eH, q1, q2⟩ => ?_⟩
  have e1 : vs[i]? = some x3 := q1 vs sq
  have e2 : us[i]? = some y3 := q2 us sq2
  rw [hv] at e1
  rw [hu] at e2
  cases e1
  cases e2
  subst e
  subst eH
  exact pair_new rg hT rv ru⟩
theorem jm_zipL {K : PySem.W.Frag} {R0 : Gp} {H : Hp} {a b : Addr} {xs ys : List D} (h : ∀ R H', Kp R0 H R H' → ∃ vs us, SqL K H' a vs ∧ SqL K H' b us ∧ RpL K R H' xs vs ∧ RpL K R H' ys us) : JM K (Itz K a b) (zipD xs ys) (fun _ => True) R0 H := ⟨fun _ _ h => h, fun i G' H' k rg _ => by
  obtain ⟨vs, us, sq, sq2, rl, rl2⟩ := h G' H' k
  refine ⟨fun w hw => ?_, fun hi => ⟨vs, us, sq, sq2, by rw [rl.length, rl2.length]; rw [zipD_len] at hi; omega⟩⟩
  obtain ⟨x, y, hx, hy, rfl⟩ := zipD_get hw
  obtain ⟨v, hv, rv⟩ := rl.get hx
  obtain ⟨u, hu, ru⟩ := rl2.get hy
  refine ⟨⟨vs, us, v, u, sq, sq2, hv, hu⟩, fun x2 H2 ⟨T, x3, y3, e, hT, eH, q1, q2⟩ => ?_⟩
  have e1 : vs[i]? = some x3 := q1 vs sq
  have e2 : us[i]? = some y3 := q2 us sq2
  rw [hv] at e1
  rw [hu] at e2
  cases e1
  cases e2
  subst e
  subst eH
  exact pair_new rg hT rv ru⟩
theorem mi_zip (hg : Gl X "zip") (hm : X.mg "zip" = none) (ha : ME B X e Te) (hb : ME B X e2 Te2) (hs : starEach [e, e2] X.env = (false, eval e X.env) :: starEach [e2] X.env := by rfl) (hpl : (backTo pos (starEach [e2] X.env)).any (·.1) = false := by rfl)
    (hs1 : starEach [e2] X.env = (false, eval e2 X.env) :: starEach [] X.env := by rfl) : MI B X (.Tuple elts kk tpos) (.Call (.Name "zip" p) [e, e2] [] pos) (mZipT Te Te2) :=
  pi_mono (RZ.pi_zipA hg hm (pa_cons ha (pa_cons hb pa_nil hs1) hs) hs hpl) fun σ H R ⟨τ, G, F, r, dj, rs, rb, h, c⟩ => ⟨τ, G, F, _, dj, rs, rb, h, fun v H1 ⟨w, G1, d1, k1, rg1, r1, h1⟩ => ⟨τ, G1, F, _, d1, rs.kp k1, rb.go k1 rg1, h1, fun v2 H2 ⟨w2, G2, d2, k2, rg2, r2, h2⟩ => by
    have r1' := r1.kp k2
    cases w with
    | tup ws =>
      cases w2 with
      | tup us =>
        obtain ⟨p, vs, rfl, ht, rl⟩ := r1'
        obtain ⟨p2, vs2, rfl, ht2, rl2⟩ := r2
        exact ⟨p, p2, vs, vs2, rfl, .inr ⟨ht.sq, ht2.sq, c _ H2 _ _ G2 d2 (k1.trans k2) rg2 (jm_zipT fun G' H' k => ⟨vs, vs2, (ht.keep k).sq, (ht2.keep k).sq, rl.kp k, rl2.kp k⟩) h2⟩⟩
      | _ => exact False.elim h2
    | lst ws =>
      cases w2 with
      | lst us =>
        obtain ⟨p, vs, rfl, ht, rl⟩ := r1'
        obtain ⟨p2, vs2, rfl, ht2, rl2⟩ := r2
        exact ⟨p, p2, vs, vs2, rfl, .inl ⟨ht.sq, ht2.sq, c _ H2 _ _ G2 d2 (k1.trans k2) rg2 (jm_zipL fun G' H' k => ⟨vs, vs2, (ht.keep k).sq, (ht2.keep k).sq, rl.kp k, rl2.kp k⟩) h2⟩⟩
      | _ => exact False.elim h2
    | _ => exact False.elim h2⟩⟩
end
end ML

set_option maxRecDepth 100000
namespace ML
open PySem PySem.Spec L2
open PyProof.Rows hiding St

/-! ### the ends of a law -/
theorem rm_caller {k : Nat} (h : Room k callerA) : Rm k callerA := ⟨h, rfl⟩
theorem rp_ints {K : PySem.W.Frag} {G : Gp} {H : Hp} : ∀ ns : List Int, RpL K G H (ns.map D.int) (ns.map V.int)
  | [] => .nil
  | n :: ns => .cons rfl (rp_ints ns)
theorem lawM {P : Program} {w : World} {K : PySem.W.Frag} {mg mb : Str → Option Value} {k : Nat} {fa a : Addr} {fd : FuncData} {x : Str} {sp : MSp} {s₁ : Shared} {vs : List Value} {ns : List Int}
    (KX : K.In s₁.heap) (hns : s₁.heap.Ns mainGlobals mg) (hb : s₁.heap.Ns builtinsNs mb) (hbb : ∀ x : Str, x ≠ "__name__" → mb x = bootBuiltins x) (hlim : s₁.heap.NoLimit) (hg : s₁.gens = #[])
    (ha : s₁.heap.get? a = some { cls := .type "list", data := .seq vs.toArray }) (hi : IntsAre vs ns) (hl : ns.length ≤ sizeLine) (hr : Rm k callerA)
    (F : ∀ base : Heap, K.In base → base.Ns mainGlobals mg → FnG P w K mg base k fa fd [x] sp) (hbind : ∀ (s : Shared) (u : Value), BindsTo s fd ⟨[u], []⟩ [(x, u)])
    (hsp : sp [.fz (ns.map D.int)] no (fun v _ => v = .bl true) noX) :
    codeAny (model P w) callerA (.call (.ref fa) ⟨[.ref a], []⟩) (fun r s' => r = .ok (.ret (.bool true)) ∧ OldK s₁.heap s'.heap ∧ s'.os = s₁.os ∧ AllBare s'.gens) s₁ := by
  have rv := vals_ints hi
  have lenV := hi.length
  obtain ⟨H, hH, hF⟩ : ∃ H : Hp, (∀ b u, H b = some u → b = a ∧ K.lookup a = none ∧ ∃ o, u = .frz o (.lst (ns.map V.int)) ∧ s₁.heap.get? a = some o) ∧ FzAt K no H a (ns.map V.int) := by
    cases hk : K.lookup a with
    | some o =>
      have e := KX a o hk
      rw [ha] at e
      cases e
      exact ⟨fun _ => none, fun b u z => (nomatch (show (none : Option HO) = some u from z)), .inr ⟨_, vs.toArray, _, hk, rfl, rfl, rfl, by rw [List.size_toArray, lenV]; exact hl, by simpa using rv⟩⟩
    | none =>
      refine ⟨fun b => if b = a then some (.frz { cls := .type "list", data := .seq vs.toArray } (.lst (ns.map V.int))) else none, fun b u z => ?_, .inl ⟨rfl, .inr ⟨{ cls := .type "list", data := .seq vs.toArray }, if_pos rfl⟩⟩⟩
      by_cases hb' : b = a
      · have z' := (if_pos hb').symm.trans z
        cases z'
        exact ⟨hb', rfl, _, rfl, ha⟩
      · have z' := (if_neg hb').symm.trans z
        cases z'
  have hok : HOk P w H s₁.heap := fun b u z => by
    obtain ⟨rfl, _, o, rfl, e⟩ := hH b u z
    rw [ha] at e
    cases e
    exact ⟨ha, by rw [List.length_map]; exact hl, vs, _, rv, ha⟩
  have free : ∀ {b : Addr} {o : Obj}, s₁.heap.get? b = some o → (b = a → K.lookup a = none → False) → (hidT s₁.heap H).get? b = some o := fun {b o} e n => hidT_get e (by
    cases q : H b with
    | none => rfl
    | some u => obtain ⟨e1, e2, _⟩ := hH b u q; exact (n e1 e2).elim)
  have nsK : ∀ {b : Addr} {m : Str → Option Value}, s₁.heap.Ns b m → (hidT s₁.heap H).Ns b m := fun {b m} ⟨o, es, ep, e, d, r⟩ => ⟨o, es, ep, free e (fun hb' _ => by
    subst hb'
    rw [ha] at e
    cases e
    have d' : Data.seq vs.toArray _ = Data.dict es ep := d
    cases d'), d, r⟩
  have hKb : K.In (hidT s₁.heap H) := fun b o e => free (KX b o e) fun hb' hk => by subst hb'; rw [hk] at e; cases e
  have hM : Mod K mg (hidT s₁.heap H) := ⟨hKb, nsK hns, ⟨mb, nsK hb, hbb⟩, let ⟨mc, h1, h2⟩ := hlim; ⟨mc, nsK h1, h2⟩⟩
  have e0 : Env0 P w K mg (hidT s₁.heap H) callerA [] s₁ H := ⟨rfl, hM, fun b o e => of_hidT e, Nat.le_of_eq (hidT_size _ _), trivial, fun b hb' => absurd (show b ∈ ([] : List Addr) from hb') (by simp), hok, .of_eq hg⟩
  have rg0 : RG K (jn no no) H := fun a o e => by rw [jn_no] at e; cases e
  have fz : Rp K (jn no no) H (.fz (ns.map D.int)) (.ref a) := ⟨a, ns.map V.int, rfl, by rw [jn_no]; exact hF, rp_ints ns⟩
  refine codeAny_mono ((F _ hKb (nsK hns)).run callerA [] s₁ H ⟨[.ref a], []⟩ [.ref a] [.ref a] [.fz (ns.map D.int)] no no _ noX hr e0 (hbind s₁ (.ref a)) (.cons rfl .nil) (dj_no no) rg0 (.cons fz .nil) hsp) fun r s' h => ?_
  cases r with
  | error e => obtain ⟨_, _, _, _, _, _, _, _, _, _, _, _, _, _, _, _, _, _, z⟩ := h; exact z.elim
  | ok fl =>
    cases fl with
    | next => exact False.elim h
    | brk => exact False.elim h
    | cont => exact False.elim h
    | ret u =>
      obtain ⟨v, H', os, bare, un, hok', r', q⟩ := h
      obtain ⟨wv, G', _, _, _, rw', ew⟩ := q
      subst ew
      cases (show v = .bl true from rw')
      obtain rfl : u = Value.bool true := r'
      refine ⟨rfl, OldK.of_keep fun b o e => ?_, os, bare⟩
      cases q : H b with
      | none => exact un.keep b o e q (by intro z; exact absurd (show b ∈ ([] : List Addr) from z) (by simp)) (by simp)
      | some u =>
        obtain ⟨rfl, _, ob, rfl, e3⟩ := hH b u q
        have z2 := un.frzs b ob _ q
        obtain ⟨e2, _⟩ := hok' b _ z2
        rw [e] at e3
        cases e3
        exact e2
theorem walkM {l : PySem.W.OpenLaw} {n k : Nat} {q : Program} {loose : List Str} {XP : (Str → Option Value) → Heap → Prop} {YP : World → Heap → Prop} {d : DefRec} {K : Params → PySem.W.Frag} {sp : MSp} {x : Str}
    (hn : l.most = some n) (hn2 : n ≤ sizeLine) (hdf : d.params.defaults = []) (hr : Room k callerA) (hY : ∀ (w : World) (h : Heap), YP w h → (K w.params).In h)
    (F : ∀ (w : World) (mg : Str → Option Value) (fa : Addr) (h : Heap), (K w.params).In h → h.Ns mainGlobals mg → mg d.name = some (.ref fa) →
      ∃ fd : FuncData, (∀ (s : Shared) (u : Value), BindsTo s fd ⟨[u], []⟩ [(x, u)]) ∧ ∀ base : Heap, (K w.params).In base → base.Ns mainGlobals mg → FnG l.prog w (K w.params) mg base k fa fd [x] sp)
    (hsp : ∀ ns : List Int, ns.length ≤ n → sp [.fz (ns.map D.int)] no (fun v _ => v = .bl true) noX) : PySem.W.WalkO q loose XP YP l.row.toRowW d [] (fun f vs => PySem.call f vs) := by
  refine Att.attach_call hn hdf fun w s₀ s₁ mg mb fa o pm cd doc a vs ns G Y ho hd hcd hmg hobj hints hlen hg => ?_
  have KX := hY w _ Y
  obtain ⟨fd, hb, hF⟩ := F w mg fa _ KX G.T.g hmg
  exact lawM KX G.T.g G.T.b G.T.builtins G.T.nolimit hg hobj hints (Nat.le_trans hlen hn2) (rm_caller hr) hF hb (hsp ns hlen)

/-! ### a def of the module -/
structure Df (K : PySem.W.Frag) (mg : Str → Option Value) (x : Str) (st : Stmt) (f : Addr) (fd : FuncData) (ps : List Str) : Prop where
  fn : Fun K x x st f fd
  mgx : mg x = some (.ref f)
  kp : PySem.W.keepIn K (.ref f) = true
  bd : Binds K fd ps []
end ML

set_option maxRecDepth 100000
namespace ML
open PySem PySem.Spec L2
open PyProof.Rows hiding St
theorem bb_len : bootBuiltins "len" = some (.builtin "len") := by first | exact PySem.boot_len | exact PyProof.Rows.boot_len
theorem bb_abs : bootBuiltins "abs" = some (.builtin "abs") := by first | exact PySem.boot_abs | exact PyProof.Rows.boot_abs
theorem bb_max : bootBuiltins "max" = some (.builtin "max") := by first | exact PySem.boot_max | exact PyProof.Rows.boot_max
theorem bb_min : bootBuiltins "min" = some (.builtin "min") := by first | exact PySem.boot_min | exact PyProof.Rows.boot_min
theorem bb_repr : bootBuiltins "repr" = some (.builtin "repr") := by first | exact PySem.boot_repr | exact PyProof.Rows.boot_repr
theorem bb_sum : bootBuiltins "sum" = some (.builtin "sum") := by first | exact PySem.boot_sum | exact PyProof.Rows.boot_sum
theorem bb_sorted : bootBuiltins "sorted" = some (.builtin "sorted") := by first | exact PySem.boot_sorted | exact PyProof.Rows.boot_sorted
theorem bb_any : bootBuiltins "any" = some (.builtin "any") := by first | exact PySem.boot_any | exact PyProof.Rows.boot_any
theorem bb_all : bootBuiltins "all" = some (.builtin "all") := by first | exact PySem.boot_all | exact PyProof.Rows.boot_all
theorem bb_int : bootBuiltins "int" = some (.type "int") := by first | exact PySem.boot_int | exact PyProof.Rows.boot_int
theorem bb_str : bootBuiltins "str" = some (.type "str") := by first | exact PySem.boot_str | exact PyProof.Rows.boot_str
theorem bb_list : bootBuiltins "list" = some (.type "list") := by first | exact PySem.boot_list | exact PyProof.Rows.boot_list
theorem bb_tuple : bootBuiltins "tuple" = some (.type "tuple") := by first | exact PySem.boot_tuple | exact PyProof.Rows.boot_tuple
/-! keywords in the order of the parameters -/
theorem kb_app {K : PySem.W.Frag} {x qual : Str} {st : Stmt} {f : Addr} {fd : FuncData} {ps ks : List Str} {n : Nat} (F : Fun K x qual st f fd)
    (h : ∀ (kV doc pm : Value) (an : Option Addr) (cdv ct : Value) (us ws : List Value), us.length = n → ws.length = ks.length → bindArgs (PySem.W.fnOf x qual (defArgs st) (defBody st) (defScope st) .none kV doc pm an cdv ct) ⟨us, ks.zip ws⟩ = pure (ps.zip (us ++ ws))) :
    KB K fd ps n ks (fun us ws => us ++ ws) (fun us ws => us ++ ws) (fun us ws => us ++ ws) := by
  obtain ⟨oc, od, kV, doc, pm, an, cdv, ct, osl, rfl, lk, hcd⟩ := F.ex
  exact ⟨⟨fun s us ws _ h1 h2 => .of_eq (h kV doc pm an cdv ct us ws h1 h2), fun a b => a.append b⟩, fun a b => a.append b⟩
theorem df_mk {K : PySem.W.Frag} {h : Heap} {mg : Str → Option Value} {x : Str} {st : Stmt} {f : Addr} {ps : List Str} {oc : Value} {od an : Option Addr} {osl : Array (Option Value)} {kV doc pm cdv ct : Value} (X : K.In h) (G : h.Ns mainGlobals mg)
    (a : PySem.W.nsIn K mainGlobals x = some (some (.ref f))) (l : K.lookup f = some ⟨oc, od, .func (PySem.W.fnOf x x (defArgs st) (defBody st) (defScope st) .none kV doc pm an cdv ct), osl⟩)
    (c : PySem.W.codeIn K cdv x = true) (k : PySem.W.keepIn K (.ref f) = true)
    (hb : ∀ (kV doc pm : Value) (an : Option Addr) (cdv ct : Value) (us : List Value), us.length = ps.length → bindArgs (PySem.W.fnOf x x (defArgs st) (defBody st) (defScope st) .none kV doc pm an cdv ct) ⟨us, []⟩ = pure (ps.zip us)) :
    Df K mg x st f (PySem.W.fnOf x x (defArgs st) (defBody st) (defScope st) .none kV doc pm an cdv ct) ps :=
  ⟨fun_mk l c k, PySem.W.mg_of X G a, k, (fun_mk l c k).binds hb⟩
end ML

set_option maxRecDepth 100000
namespace ML
open PySem PySem.Spec L2
open PyProof.Rows hiding St

/-! ### steps of a body, as equations -/
theorem mVar_eq {i : Nat} {τ : Sl} {G : Gp} {q : MK} {w : D} (h : τ[i]? = some (some w)) : mVar i τ G q = q w G := by
  unfold mVar
  rw [h]
  apply propext
  constructor
  · rintro ⟨u, e, z⟩; cases e; exact z
  · intro z; exact ⟨w, rfl, z⟩
theorem at3_0 {α : Type} (a b c : α) : atI [a, b, c] (0 : Int) = some a := rfl
theorem at3_1 {α : Type} (a b c : α) : atI [a, b, c] (1 : Int) = some b := rfl
theorem at3_2 {α : Type} (a b c : α) : atI [a, b, c] (2 : Int) = some c := rfl
theorem at_in {α : Type} {xs : List α} {i : Int} (h0 : 0 ≤ i) (h1 : i < xs.length) : ∃ w, atI xs i = some w ∧ w ∈ xs ∧ xs[i.toNat]? = some w := by
  have hl : i.toNat < xs.length := by omega
  refine ⟨xs[i.toNat], ?_, List.getElem_mem _, List.getElem?_eq_getElem hl⟩
  unfold atI ixN
  rw [if_pos h0, if_pos h1]
  exact List.getElem?_eq_getElem hl
theorem ixN_in {n : Nat} {i : Int} (h0 : 0 ≤ i) (h1 : i < n) : ixN n i = some i.toNat := by
  unfold ixN
  rw [if_pos h0, if_pos h1]
theorem seqIx_in {n : Nat} {i : Int} (h0 : 0 ≤ i) (h1 : i < n) : seqIndex? i n = some i.toNat := (ixN_seq (ixN_in h0 h1)).1

/-! ### == -/
mutual
theorem eqD_self : ∀ d : D, okD d = true → eqD d d = true
  | .non, _ => rfl
  | .bl b, _ => by unfold eqD; exact beq_self_eq_true b
  | .int i, _ => by unfold eqD; exact beq_self_eq_true i
  | .str x, _ => by unfold eqD; exact beq_self_eq_true x
  | .lst xs, h => by unfold eqD; exact eqDs_self xs (by simpa [okD] using h)
  | .tup xs, h => by unfold eqD; exact eqDs_self xs (by simpa [okD] using h)
  | .ref _, h => by simp [okD] at h
  | .ty _, h => by simp [okD] at h
  | .fz _, h => by simp [okD] at h
theorem eqDs_self : ∀ ds : List D, okDs ds = true → eqDs ds ds = true
  | [], _ => rfl
  | x :: xs, h => by
    rw [okDs_cons, Bool.and_eq_true] at h
    unfold eqDs
    rw [eqD_self x h.1, eqDs_self xs h.2]; rfl
end
theorem okDs_all : ∀ {ds : List D}, (∀ d ∈ ds, okD d = true) → okDs ds = true
  | [], _ => rfl
  | x :: xs, h => by rw [okDs_cons, h x List.mem_cons_self, okDs_all fun d hd => h d (List.mem_cons_of_mem _ hd)]; rfl
theorem deps_all {n : Nat} : ∀ {ds : List D}, (∀ d ∈ ds, dep d ≤ n) → deps ds ≤ n
  | [], _ => Nat.zero_le _
  | x :: xs, h => by
    unfold deps
    exact Nat.max_le.mpr ⟨h x List.mem_cons_self, deps_all fun d hd => h d (List.mem_cons_of_mem _ hd)⟩

/-! ### texts -/
theorem sok_append {a b : Str} (ha : PyData.strOk a = true) (hb : PyData.strOk b = true) : PyData.strOk (a ++ b) = true := by
  unfold PyData.strOk at *
  show ((a.cps ++ b.cps).all fun x => decide (x < 1114112)) = true
  rw [Array.all_append, ha, hb]; rfl
theorem sok_int (i : Int) : PyData.strOk (toString i) = true := by
  show PyData.strOk (Str.ofString (toString i)) = true
  unfold PyData.strOk
  rw [Str.ofString_eq_toList]
  show ((((toString i).toList.map Char.toNat).toArray).all fun x => decide (x < 1114112)) = true
  rw [List.all_toArray, List.all_eq_true]
  intro n hn
  obtain ⟨c, hc, rfl⟩ := List.mem_map.mp hn
  have := int_ascii i c hc
  simp only [decide_eq_true_eq]
  omega
theorem join_eq (a : Str) (ys : List Str) : Txt.join a ys = Str.join a ys := StrLaws.glued_eq_join a ys
theorem sok_join {a : Str} (ha : PyData.strOk a = true) : ∀ {ys : List Str}, (∀ y ∈ ys, PyData.strOk y = true) → PyData.strOk (Txt.join a ys) = true := by
  intro ys h
  rw [join_eq]
  induction ys with
  | nil =>
    show PyData.strOk Str.empty = true
    simp [PyData.strOk, Str.empty]
  | cons x r ih =>
    cases r with
    | nil => exact h x List.mem_cons_self
    | cons y r =>
      show PyData.strOk (x ++ a ++ Str.join a (y :: r)) = true
      exact sok_append (sok_append (h x List.mem_cons_self) ha) (ih fun z hz => h z (List.mem_cons_of_mem _ hz))
theorem sum_le {α : Type} {f : α → Nat} {n : Nat} : ∀ {xs : List α}, (∀ x ∈ xs, f x ≤ n) → (xs.map f).sum ≤ xs.length * n
  | [], _ => Nat.zero_le _
  | x :: xs, h => by
    rw [List.map_cons, List.sum_cons, List.length_cons, Nat.succ_mul]
    have := h x List.mem_cons_self
    have := sum_le fun y hy => h y (List.mem_cons_of_mem _ hy)
    omega
theorem join_len {a : Str} {ys : List Str} {n : Nat} (h : ∀ y ∈ ys, y.length ≤ n) : (Txt.join a ys).length ≤ ys.length * (n + a.length) := by
  rw [join_eq]
  have h1 := StrLaws.join_length_le a ys
  have h2 : (ys.map (fun x => x.length)).sum ≤ ys.length * n := sum_le h
  rw [Nat.mul_add]
  omega
theorem int_len {i : Int} (h0 : 0 ≤ i) (h1 : i ≤ 10 ^ 30) : (toString i : Str).length ≤ 31 := toString_length_le h0 (by decide) (Int.lt_of_le_of_lt h1 (by decide))
theorem int_log {i : Int} (h0 : 0 ≤ i) (h1 : i ≤ 10 ^ 30) : i.natAbs.log2 < 1920 := by
  have h : i.natAbs ≤ 10 ^ 30 := by omega
  by_cases hz : i.natAbs = 0
  · rw [hz]; decide
  · rw [Nat.log2_lt hz]
    exact Nat.lt_of_le_of_lt h (by decide +kernel)
theorem int_pos (i : Int) : 0 < (toString i : Str).length := by
  show 0 < (Str.ofString (toString i)).length
  rw [PySem.ofString_length]
  have : (toString i).toList ≠ [] := by
    rw [Int.toString_eq_repr, Int.repr_eq_if]
    split
    · rw [Nat.toList_repr]; exact Nat.toDigits_ne_nil
    · rw [String.toList_append]; simp
  rw [← String.length_toList]
  exact List.length_pos_iff.mpr this

/-! ### data of numbers: what repr shows is short -/
mutual
def okI : D → Bool
  | .non | .bl _ => true
  | .int i => decide (0 ≤ i) && decide (i ≤ 10 ^ 30)
  | .lst xs | .tup xs => okIs xs
  | _ => false
def okIs : List D → Bool
  | [] => true
  | x :: xs => okI x && okIs xs
end
theorem okIs_cons {x : D} {xs : List D} : okIs (x :: xs) = (okI x && okIs xs) := rfl
theorem okIs_all : ∀ {ds : List D}, (∀ d ∈ ds, okI d = true) → okIs ds = true
  | [], _ => rfl
  | x :: xs, h => by rw [okIs_cons, h x List.mem_cons_self, okIs_all fun d hd => h d (List.mem_cons_of_mem _ hd)]; rfl
mutual
theorem okI_ok : ∀ d : D, okI d = true → okD d = true ∧ (pd d).showable = true ∧ (pd d).hasDict = false ∧ (pd d).leavesShort 33 = true ∧ (pd d).depth ≤ dep d
  | .non, _ => ⟨rfl, rfl, rfl, rfl, Nat.le_refl _⟩
  | .bl b, _ => ⟨rfl, rfl, rfl, rfl, Nat.le_refl _⟩
  | .int i, h => by
    have h' : 0 ≤ i ∧ i ≤ 10 ^ 30 := by simpa [okI] using h
    refine ⟨rfl, ?_, rfl, ?_, Nat.le_refl _⟩
    · show decide (i.natAbs.log2 < 1920) = true
      exact decide_eq_true (int_log h'.1 h'.2)
    · show decide ((PyData.shown (.int i)).length ≤ 33) = true
      have : (toString i : Str).length ≤ 31 := int_len h'.1 h'.2
      exact decide_eq_true (Nat.le_trans this (by decide))
  | .lst xs, h => by
    obtain ⟨a, b, c, d, e⟩ := okIs_ok xs (by simpa [okI] using h)
    exact ⟨by simpa [okD] using a, by simpa [pd, PyData.showable] using b, by simpa [pd, PyData.hasDict] using c, by simpa [pd, PyData.leavesShort] using d, by simp only [pd, PyData.depth, dep]; omega⟩
  | .tup xs, h => by
    obtain ⟨a, b, c, d, e⟩ := okIs_ok xs (by simpa [okI] using h)
    exact ⟨by simpa [okD] using a, by simpa [pd, PyData.showable] using b, by simpa [pd, PyData.hasDict] using c, by simpa [pd, PyData.leavesShort] using d, by simp only [pd, PyData.depth, dep]; omega⟩
  | .str _, h => by simp [okI] at h
  | .ref _, h => by simp [okI] at h
  | .ty _, h => by simp [okI] at h
  | .fz _, h => by simp [okI] at h
theorem okIs_ok : ∀ ds : List D, okIs ds = true → okDs ds = true ∧ PyData.showableAll (pds ds) = true ∧ PyData.hasDictAll (pds ds) = false ∧ PyData.leavesShortAll 33 (pds ds) = true ∧ PyData.depthAll (pds ds) ≤ deps ds
  | [], _ => ⟨rfl, rfl, rfl, rfl, Nat.le_refl _⟩
  | x :: xs, h => by
    rw [okIs_cons, Bool.and_eq_true] at h
    obtain ⟨a, b, c, d, e⟩ := okI_ok x h.1
    obtain ⟨a', b', c', d', e'⟩ := okIs_ok xs h.2
    refine ⟨by rw [okDs_cons, a, a']; rfl, ?_, ?_, ?_, ?_⟩
    · simp only [pds, PyData.showableAll, b, b']; rfl
    · simp only [pds, PyData.hasDictAll, c, c']; rfl
    · simp only [pds, PyData.leavesShortAll, d, d']; rfl
    · simp only [pds, PyData.depthAll, deps]; omega
end
/-- how much of it there is -/
def wtD (d : D) : Nat := (pd d).weight
theorem wts_le {n : Nat} : ∀ {ds : List D}, (∀ d ∈ ds, wtD d ≤ n) → PyData.weightAll (pds ds) ≤ ds.length * (n + 1)
  | [], _ => Nat.zero_le _
  | x :: xs, h => by
    simp only [pds, PyData.weightAll, List.length_cons, Nat.succ_mul]
    have h1 := h x List.mem_cons_self
    have h2 := wts_le fun y hy => h y (List.mem_cons_of_mem _ hy)
    unfold wtD at h1
    omega
theorem wt_tup {n : Nat} {ds : List D} (h : ∀ d ∈ ds, wtD d ≤ n) : wtD (.tup ds) ≤ ds.length * (n + 1) := by
  have := wts_le h
  show (pd (.tup ds)).weight ≤ _
  simpa [pd, PyData.weight] using this
theorem wt_lst {n : Nat} {ds : List D} (h : ∀ d ∈ ds, wtD d ≤ n) : wtD (.lst ds) ≤ ds.length * (n + 1) := by
  have := wts_le h
  show (pd (.lst ds)).weight ≤ _
  simpa [pd, PyData.weight] using this
theorem repr_ok {xs : List D} (h : okI (.tup xs) = true) (hd : dep (.tup xs) ≤ 60) (hw : wtD (.tup xs) ≤ 400000) :
    okD (.tup xs) = true ∧ dep (.tup xs) ≤ 60 ∧ (pd (.tup xs)).showable = true ∧ (pd (.tup xs)).hasDict = false ∧ (pd (.tup xs)).depth ≤ 60 ∧ (pd (.tup xs)).shown.length ≤ sizeLine := by
  obtain ⟨a, b, c, d, e⟩ := okI_ok _ h
  refine ⟨a, hd, b, c, Nat.le_trans e hd, ?_⟩
  have := PyData.shown_le 33 (by decide) _ d
  unfold wtD at hw
  rw [sizeLine_eq]
  omega

/-! ### states -/
theorem sub_put {G G' : Gp} {a : Addr} {o : MO} (h : Sub G G') : Sub (put G a o) (put G' a o) := fun b u e => by
  by_cases hb : b = a
  · subst hb; rw [put_same] at e ⊢; exact e
  · rw [put_ne hb] at e ⊢; exact h b u e
theorem less_of {q : MK} {w : D} {G G' : Gp} (s : Sub G G') (h : q w G) : less q w G' := ⟨G, s, .inl h⟩
theorem less_here {q : MK} {w : D} {G : Gp} (h : q w G) : less q w G := ⟨G, Sub.refl G, .inl h⟩
theorem less_frz {q : MK} {p : Addr} {ws : List D} {G G' : Gp} (s : Sub G G') (e : G' p = some (.lst ws)) (g : G p = none) (h : q (.lst ws) G) : less q (.ref p) G' := ⟨G, s, .inr ⟨p, ws, rfl, e, g, h⟩⟩
theorem ne_of_fresh {G : Gp} {a p : Addr} {o : MO} (h : G a = some o) (hp : G p = none) : a ≠ p := by rintro rfl; rw [h] at hp; cases hp

/-! ### loops: an invariant over the turns -/
theorem loop_ind {alive : Gp → Prop} {g : GT} {T : TSm} {d : Em} {ws : List D} (I : Nat → Sl → Gp → Prop)
    (hs : ∀ (i : Nat) (w : D) (τ : Sl) (G : Gp) (N : Sl → Gp → Prop), ws[i]? = some w → I i τ G → (∀ τ' G', I (i + 1) τ' G' → N τ' G') → alive G ∧ g.run w G τ (T { d with nx := N, ct := N, bk := d.nx }))
    (he : ∀ τ G, I ws.length τ G → alive G ∧ d.nx τ G) {τ : Sl} {G : Gp} (h0 : I 0 τ G) : mLoop alive g T d ws τ G := by
  have key : ∀ (n : Nat) (i : Nat), i + n = ws.length → ∀ τ G, I i τ G → mLoop alive g T d (ws.drop i) τ G := by
    intro n
    induction n with
    | zero =>
      intro i hi τ G h
      have e : i = ws.length := by omega
      subst e
      rw [List.drop_length]
      exact he τ G h
    | succ n ih =>
      intro i hi τ G h
      have hlt : i < ws.length := by omega
      rw [List.drop_eq_getElem_cons hlt]
      exact hs i ws[i] τ G _ (List.getElem?_eq_getElem hlt) h fun τ' G' h' => ih (i + 1) (by omega) τ' G' h'
  have := key ws.length 0 (by omega) τ G h0
  rwa [List.drop_zero] at this
theorem comp_ind {alive : Gp → Prop} {g : GT} {tt : TTm} {Te : TEm} {τ0 : Sl} {ws : List D} {q : List D → Gp → Prop} (I : Nat → List D → Gp → Prop)
    (hs : ∀ (i : Nat) (w : D) (acc : List D) (G : Gp) (N : List D → Gp → Prop), ws[i]? = some w → I i acc G → (∀ acc' G', I (i + 1) acc' G' → N acc' G') → alive G ∧ g.run w G τ0 fun τ2 G2 => tt τ2 G2 fun b G3 => match b with
      | true => Te τ2 G3 fun y G4 => acc.length < sizeLine ∧ N (acc ++ [y]) G4
      | false => N acc G3)
    (he : ∀ acc G, I ws.length acc G → alive G ∧ q acc G) {G : Gp} (h0 : I 0 [] G) : mComp alive g tt Te τ0 ws [] G q := by
  have key : ∀ (n : Nat) (i : Nat), i + n = ws.length → ∀ acc G, I i acc G → mComp alive g tt Te τ0 (ws.drop i) acc G q := by
    intro n
    induction n with
    | zero =>
      intro i hi acc G h
      have e : i = ws.length := by omega
      subst e
      rw [List.drop_length]
      exact he acc G h
    | succ n ih =>
      intro i hi acc G h
      have hlt : i < ws.length := by omega
      rw [List.drop_eq_getElem_cons hlt]
      exact hs i ws[i] acc G (fun acc G => mComp alive g tt Te τ0 (ws.drop (i + 1)) acc G q) (List.getElem?_eq_getElem hlt) h fun acc' G' h' => ih (i + 1) (by omega) acc' G' h'
  have := key ws.length 0 (by omega) [] G h0
  rwa [List.drop_zero] at this
/-- each item by itself, the state as it was -/
theorem comp_map {alive : Gp → Prop} {g : GT} {Te : TEm} {τ0 : Sl} {ws : List D} {q : List D → Gp → Prop} {G : Gp} (f : D → D) (hl : ws.length < sizeLine) (al : alive G)
    (hs : ∀ (w : D) (r : MK), w ∈ ws → r (f w) G → g.run w G τ0 fun τ2 G2 => Te τ2 G2 r) (he : q (ws.map f) G) : mComp alive g mYes Te τ0 ws [] G q := by
  refine comp_ind (fun i acc G' => G' = G ∧ acc = (ws.take i).map f) (fun i w acc G' N hw ⟨e1, e2⟩ hN => ?_) (fun acc G' ⟨e1, e2⟩ => ?_) ⟨rfl, by rw [List.take_zero]; rfl⟩
  · subst e1
    refine ⟨al, hs w _ (List.mem_of_getElem? hw) ?_⟩
    have hi := (List.getElem?_eq_some_iff.mp hw).1
    refine ⟨by rw [e2, List.length_map, List.length_take]; omega, hN _ _ ⟨rfl, ?_⟩⟩
    rw [e2, List.take_add_one, hw, Option.toList_some, List.map_append]; rfl
  · subst e1
    refine ⟨al, ?_⟩
    rw [e2, List.take_length]; exact he
end ML

set_option maxRecDepth 100000
namespace ML
open PySem PySem.Spec L2
open PyProof.Rows hiding St
section
variable {G : Gp} {q : MK} {τ : Sl} {own : Bool} {xs ys : List D} {i j : Int} {a : Addr} {z z' : Str} {x y w : D} {b c : Bool}
theorem e_ix_tup : mIx (.tup xs) (.int i) G q = ∃ w, atI xs i = some w ∧ q w G := rfl
theorem e_ix_lst : mIx (.lst xs) (.int i) G q = ∃ ys w, LstOf G (.lst xs) ys ∧ atI ys i = some w ∧ q w G := rfl
theorem e_ix_fz : mIx (.fz xs) (.int i) G q = ∃ ys w, LstOf G (.fz xs) ys ∧ atI ys i = some w ∧ q w G := rfl
theorem e_ix_ref : mIx (.ref a) (.int i) G q = ∃ ys w, LstOf G (.ref a) ys ∧ atI ys i = some w ∧ q w G := rfl
theorem e_lo_lst : LstOf G (.lst xs) ys = (ys = xs) := rfl
theorem e_lo_fz : LstOf G (.fz xs) ys = (ys = xs) := rfl
theorem e_lo_ref : LstOf G (.ref a) ys = (G a = some (.lst ys)) := rfl
theorem e_so_lst : SeqOf G (.lst xs) ys = (ys = xs) := rfl
theorem e_so_fz : SeqOf G (.fz xs) ys = (ys = xs) := rfl
theorem e_so_tup : SeqOf G (.tup xs) ys = (ys = xs) := rfl
theorem e_so_ref : SeqOf G (.ref a) ys = (G a = some (.lst ys)) := rfl
theorem e_hd_lst : HdOf G (.lst xs) ys = (ys = xs) := rfl
theorem e_hd_ref : HdOf G (.ref a) ys = (G a = some (.lst ys)) := rfl
theorem e_add_int : mAdd own (.int i) (.int j) G q = q (.int (i + j)) G := rfl
theorem e_add_str : mAdd own (.str z) (.str z') G q = (z.length + z'.length ≤ sizeLine ∧ q (.str (z ++ z')) G) := rfl
theorem e_add_tup : mAdd own (.tup xs) (.tup ys) G q = (xs.length + ys.length ≤ sizeLine ∧ q (.tup (xs ++ ys)) G) := rfl
theorem e_add_lst : mAdd own (.lst xs) (.lst ys) G q = ∃ us vs, HdOf G (.lst xs) us ∧ HdOf G (.lst ys) vs ∧ us.length + vs.length ≤ sizeLine ∧ newL own (us ++ vs) G q := rfl
theorem e_sub_int : mSub (.int i) (.int j) G q = q (.int (i - j)) G := rfl
theorem e_mul_int : mMul own (.int i) (.int j) G q = ((CMul i j ∨ CMulW i j) ∧ q (.int (i * j)) G) := rfl
theorem e_mul_lst : mMul own (.lst xs) (.int j) G q = ∃ us, HdOf G (.lst xs) us ∧ (-(2 ^ 63) ≤ j ∧ j < 2 ^ 63 ∧ us.length * j.toNat ≤ sizeLine) ∧ newL own (List.replicate j.toNat us).flatten G q := rfl
theorem e_mul_tup : mMul own (.tup xs) (.int j) G q = ((xs ≠ [] ∧ 2 ≤ j ∧ j ≤ 1000 ∧ xs.length ≤ 1000) ∧ q (.tup (List.replicate j.toNat xs).flatten) G) := rfl
theorem e_mod_int : mMod (.int i) (.int j) G q = (0 < j ∧ q (.int (i % j)) G) := rfl
theorem e_fdv_int : mFdv (.int i) (.int j) G q = (CDivW i j ∧ q (.int (i / j)) G) := rfl
theorem e_pow_int : mPow (.int i) (.int j) G q = (CPow i j ∧ q (.int (i ^ j.toNat)) G) := rfl
theorem e_lt_int : mLt (.int i) (.int j) G q = q (.bl (decide (i < j))) G := rfl
theorem e_le_int : mLe (.int i) (.int j) G q = q (.bl (decide (i ≤ j))) G := rfl
theorem e_gt_int : mGt (.int i) (.int j) G q = q (.bl (decide (j < i))) G := rfl
theorem e_ge_int : mGe (.int i) (.int j) G q = q (.bl (decide (j ≤ i))) G := rfl
theorem e_eq_int : mEq (.int i) (.int j) G q = q (.bl (decide (i = j))) G := rfl
theorem e_ne_int : mNe (.int i) (.int j) G q = q (.bl (!decide (i = j))) G := rfl
theorem e_eq_str : mEq (.str z) (.str z') G q = q (.bl (decide (z = z'))) G := rfl
theorem e_ne_str : mNe (.str z) (.str z') G q = q (.bl (!decide (z = z'))) G := rfl
theorem e_isN : mIsN x .non G q = q (.bl (isN x)) G := rfl
theorem e_notN : mNotN x .non G q = q (.bl (!isN x)) G := rfl
theorem e_isN_non : isN .non = true := rfl
theorem e_isN_int : isN (.int i) = false := rfl
theorem e_isN_tup : isN (.tup xs) = false := rfl
theorem e_isN_str : isN (.str z) = false := rfl
theorem e_isN_ref : isN (.ref a) = false := rfl
theorem e_isN_lst : isN (.lst xs) = false := rfl
theorem e_abs : mAbs [.int i] G q = q (.int (if i < 0 then -i else i)) G := rfl
theorem e_max2 : mMax2 [.int i, .int j] G q = q (.int (if j > i then j else i)) G := rfl
theorem e_min2 : mMin2 [.int i, .int j] G q = q (.int (if j < i then j else i)) G := rfl
theorem e_int_int : mInt [.int i] G q = q (.int i) G := rfl
theorem e_int_bl : mInt [.bl b] G q = q (.int (if b then 1 else 0)) G := rfl
theorem e_str_int : mStr [.int i] G q = (i.natAbs.log2 < 1920 ∧ q (.str (toString i)) G) := rfl
theorem e_str_str : mStr [.str z] G q = q (.str z) G := rfl
theorem e_str_non : mStr [.non] G q = q (.str "None") G := rfl
theorem e_len_str : mLen [.str z] G q = (z.length ≤ sizeLine ∧ q (.int (z.length : Int)) G) := rfl
theorem e_len_tup : mLen [.tup xs] G q = ∃ ys, SeqOf G (.tup xs) ys ∧ q (.int (ys.length : Int)) G := rfl
theorem e_len_lst : mLen [.lst xs] G q = ∃ ys, SeqOf G (.lst xs) ys ∧ q (.int (ys.length : Int)) G := rfl
theorem e_len_fz : mLen [.fz xs] G q = ∃ ys, SeqOf G (.fz xs) ys ∧ q (.int (ys.length : Int)) G := rfl
theorem e_len_ref : mLen [.ref a] G q = ∃ ys, SeqOf G (.ref a) ys ∧ q (.int (ys.length : Int)) G := rfl
theorem e_list_tup : mList own [.tup xs] G q = ∃ ys, SeqOf G (.tup xs) ys ∧ newL own ys G q := rfl
theorem e_list_lst : mList own [.lst xs] G q = ∃ ys, SeqOf G (.lst xs) ys ∧ newL own ys G q := rfl
theorem e_list_fz : mList own [.fz xs] G q = ∃ ys, SeqOf G (.fz xs) ys ∧ newL own ys G q := rfl
theorem e_list_ref : mList own [.ref a] G q = ∃ ys, SeqOf G (.ref a) ys ∧ newL own ys G q := rfl
theorem e_tupl_tup : mTupl [.tup xs] G q = ∃ ys, SeqOf G (.tup xs) ys ∧ q (.tup ys) G := rfl
theorem e_tupl_lst : mTupl [.lst xs] G q = ∃ ys, SeqOf G (.lst xs) ys ∧ q (.tup ys) G := rfl
theorem e_tupl_ref : mTupl [.ref a] G q = ∃ ys, SeqOf G (.ref a) ys ∧ q (.tup ys) G := rfl
theorem e_newT : newL true xs G q = ∀ p, G p = none → q (.ref p) (put G p (.lst xs)) := rfl
theorem e_newF : newL false xs G q = q (.lst xs) G := rfl
theorem e_run_nm {i : Nat} {q : Sl → Gp → Prop} : GT.run (.nm i) w G τ q = q (τ.set i (some w)) G := rfl
theorem e_run_tp {gs : List GT} {q : Sl → Gp → Prop} : GT.run (.tp gs) (.tup xs) G τ q = GT.runs gs xs G τ q := by simp only [GT.run]
theorem e_runs_nil {q : Sl → Gp → Prop} : GT.runs [] [] G τ q = q τ G := by simp only [GT.runs]
theorem e_runs_cons {g : GT} {gs : List GT} {q : Sl → Gp → Prop} : GT.runs (g :: gs) (x :: xs) G τ q = g.run x G τ fun τ' G' => GT.runs gs xs G' τ' q := by simp only [GT.runs]
theorem e_tru_bl {q : Bool → Gp → Prop} : mTru (.bl b) G q = q b G := rfl
theorem e_tru_int {q : Bool → Gp → Prop} : mTru (.int i) G q = q (i != 0) G := rfl
theorem e_tru_str {q : Bool → Gp → Prop} : mTru (.str z) G q = (z.length ≤ sizeLine ∧ q ((z.length : Int) != 0) G) := rfl
theorem e_tru_lst {q : Bool → Gp → Prop} : mTru (.lst xs) G q = q (!xs.isEmpty) G := rfl
theorem e_tru_tup {q : Bool → Gp → Prop} : mTru (.tup xs) G q = q (!xs.isEmpty) G := rfl
theorem e_ty_str {T : String} : tyD T (.str z) G = (T = "str") := rfl
theorem e_ty_lst {T : String} : tyD T (.lst xs) G = (T = "list") := rfl
theorem e_ty_ref {T : String} : tyD T (.ref a) G = (T = "list" ∧ ∃ xs, G a = some (.lst xs)) := rfl
theorem e_append : mAppend (.ref a) [y] G q = ∃ xs, G a = some (.lst xs) ∧ xs.length < sizeLine ∧ q .non (put G a (.lst (xs ++ [y]))) := rfl
theorem e_insert : mInsert (.ref a) [.int i, y] G q = ∃ xs, G a = some (.lst xs) ∧ xs.length < sizeLine ∧ 0 ≤ i ∧ i < 2 ^ 63 ∧ q .non (put G a (.lst (xs.take i.toNat ++ [y] ++ xs.drop i.toNat))) := rfl
theorem e_popAt : mPopAt (.ref a) [.int i] G q = ∃ xs k y, G a = some (.lst xs) ∧ -(2 ^ 63) ≤ i ∧ i < 2 ^ 63 ∧ seqIndex? i xs.length = some k ∧ xs[k]? = some y ∧ q y (put G a (.lst (xs.eraseIdx k))) := rfl
theorem e_pop0 : mPop0 (.ref a) [] G q = ∃ xs y, G a = some (.lst xs) ∧ xs[xs.length - 1]? = some y ∧ q y (put G a (.lst xs.dropLast)) := rfl
theorem e_join : mJoin (.str z) [x] G q = ∃ xs ys, SeqOf G x xs ∧ strsOf xs = some ys ∧ (ys.map (·.length)).sum + ys.length * z.length ≤ 16777216 ∧ q (.str (Txt.join z ys)) G := rfl
theorem e_seqI_val {Ta : TEm} {r : List D → (Gp → Prop) → Gp → Prop} : mSeqI Ta τ G r = Ta τ G fun x G1 => match x with
  | .tup ws => r ws (fun _ => True) G1
  | .lst ws => r ws (fun _ => True) G1
  | .fz ws => r ws (fun _ => True) G1
  | .str z => r (z.cps.toList.map fun c => .str ⟨#[c]⟩) (fun _ => True) G1
  | .ref a => ∃ ws, G1 a = some (.lst ws) ∧ r ws (fun G => G a = some (.lst ws)) G1
  | _ => False := rfl
theorem e_cut_str {lo hi : Option Int} : mCut own (.str z) lo hi G q = (z.length ≤ sizeLine ∧ q (.str (cutS z lo hi)) G) := rfl
theorem e_cut_tup {lo hi : Option Int} : mCut own (.tup xs) lo hi G q = q (.tup (cutD xs lo hi)) G := rfl
theorem e_cut_lst {lo hi : Option Int} : mCut own (.lst xs) lo hi G q = ∃ ys, LstOf G (.lst xs) ys ∧ newL own (cutD ys lo hi) G q := rfl
theorem e_cut_fz {lo hi : Option Int} : mCut own (.fz xs) lo hi G q = ∃ ys, LstOf G (.fz xs) ys ∧ newL own (cutD ys lo hi) G q := rfl
theorem e_cut_ref {lo hi : Option Int} : mCut own (.ref a) lo hi G q = ∃ ys, LstOf G (.ref a) ys ∧ newL own (cutD ys lo hi) G q := rfl
theorem cutD_to (xs : List D) (n : Nat) : cutD xs none (some (n : Int)) = xs.take n := by
  unfold cutD
  rw [show HT.sIx xs.length 0 none = 0 from HT.sIx_none .., show HT.sIx xs.length xs.length (some (n : Int)) = min n xs.length from HT.sIx_nat ..]
  rw [List.drop_zero, Nat.sub_zero]
  rcases Nat.le_total n xs.length with h | h
  · rw [Nat.min_eq_left h]
  · rw [Nat.min_eq_right h, List.take_length, List.take_of_length_le h]
/-- == of values -/
theorem ne_val (hx : eqS x y = none) (h1 : okD x = true) (h2 : okD y = true) (d1 : dep x ≤ 64) (d2 : dep y ≤ 64) (sx : Sees G x x) (sy : Sees G y y) (h : q (.bl (!eqD x y)) G) : mNe x y G q := by
  unfold mNe cmpEq
  rw [hx]
  exact ⟨x, y, sx, sy, h1, h2, d1, d2, h⟩
theorem eq_val (hx : eqS x y = none) (h1 : okD x = true) (h2 : okD y = true) (d1 : dep x ≤ 64) (d2 : dep y ≤ 64) (sx : Sees G x x) (sy : Sees G y y) (h : q (.bl (eqD x y)) G) : mEq x y G q := by
  unfold mEq cmpEq
  rw [hx]
  exact ⟨x, y, sx, sy, h1, h2, d1, d2, h⟩
end
end ML

set_option maxRecDepth 100000
namespace ML
open PySem PySem.Spec L2
open PyProof.Rows hiding St

/-! ### more statements -/
section
variable {B : Bs} {X : Cx} {st : Stmt} {body : List Stmt} {h₀ : ExceptHandler} {hs : List ExceptHandler} {T : TSm} {pos : Pos}
/-- a body that raises nothing -/
theorem ms_try0 (hb : MSs B X.nox body T) : MS B X (.Try body (h₀ :: hs) [] [] pos) T := ps_try_thru0 hb
end

/-! ### constants of the module -/
section
variable {B : Bs} {X : Cx} {x z : Str} {i : Int} {p pos : Pos}
theorem m_gint (hg : Gl X x) (hm : ∃ t, X.mg x = some (.int i t)) (hd : (x == ("__debug__" : Str)) = false := by decide) : ME B X (.Name x pos) (mC (.int i)) := by
  obtain ⟨t, e⟩ := hm
  exact m_glob hg e (v := .int i) ⟨t, rfl⟩ (fun _ _ => rfl) hd
theorem m_gstr (hg : Gl X x) (hm : ∃ t, X.mg x = some (.str z t)) (hd : (x == ("__debug__" : Str)) = false := by decide) : ME B X (.Name x pos) (mC (.str z)) := by
  obtain ⟨t, e⟩ := hm
  exact m_glob hg e (v := .str z) ⟨t, rfl⟩ (fun _ _ => rfl) hd
theorem m_type {n : String} (hg : Gl X x) (hm : X.mg x = none) (hv : bootBuiltins x = some (.type n)) (hn : x ≠ "__name__" := by decide) (hd : (x == ("__debug__" : Str)) = false := by decide) : ME B X (.Name x pos) (mC (.ty n)) :=
  m_bltn hg hm hv (v := .ty n) rfl (fun _ _ => rfl) hn hd
end
theorem bb_bool : bootBuiltins "bool" = some (.type "bool") := by first | exact PySem.boot_bool | exact PyProof.Rows.boot_bool
theorem bb_isinstance : bootBuiltins "isinstance" = some (.builtin "isinstance") := by first | exact PySem.boot_isinstance | exact PyProof.Rows.boot_isinstance

/-! ### isinstance -/
def tyS (G : Gp) (w : D) : Option String := match w with
  | .non => some "NoneType"
  | .bl _ => some "bool"
  | .int _ => some "int"
  | .str _ => some "str"
  | .tup _ => some "tuple"
  | .lst _ => some "list"
  | .fz _ => some "list"
  | .ref a => match G a with
    | some (.lst _) => some "list"
    | _ => none
  | .ty _ => none
theorem tyS_at {K : PySem.W.Frag} {F G : Gp} {H : Hp} {w : D} {v : V} {n : String} (h : tyS G w = some n) (rg : RG K (jn G F) H) (r : Rp K (jn G F) H w v) : TyX K H v (.type n) := by
  cases w with
  | non => cases h; cases (show v = .non from r); exact .base .non
  | bl b => cases h; cases (show v = .bl b from r); exact .base (.bl b)
  | int i => cases h; cases (show v = .int i from r); exact .base (.int i)
  | str z => cases h; cases (show v = .str z from r); exact .base (.str z)
  | tup us =>
    cases h
    obtain ⟨p, vs, rfl, a, _⟩ := r
    rcases a with ⟨_, a⟩ | ⟨o, its, m, e, c, _⟩
    · exact .base (.tup a)
    · exact .kTuple e c
  | lst us => cases h; obtain ⟨p, vs, rfl, a, _⟩ := r; exact .base (.lst a.2)
  | fz us =>
    cases h
    obtain ⟨p, vs, rfl, a, _⟩ := r
    rcases a with ⟨_, a | ⟨o, a⟩⟩ | ⟨o, its, m, e, c, _⟩
    · exact .base (.lst a)
    · exact .base (.frz a)
    · exact .kList e c
  | ref a =>
    cases (show v = .ref a from r)
    have h' : (match G a with | some (.lst _) => some "list" | _ => none) = some n := h
    split at h'
    · rename_i xs g
      cases h'
      obtain ⟨vs, hv, _⟩ := rg a _ (jn_some g)
      exact .base (.lst hv)
    · cases h'
  | ty _ => cases h
/-- one of two built-in types -/
def kit2 (t c d : String) : Option Bool := match kitB t c with
  | some true => some true
  | some false => kitB t d
  | none => none
def mIsi : M1 := fun ws G q => match ws with
  | [w, .ty c] => ∃ t b, tyS G w = some t ∧ kitB t c = some b ∧ q (.bl b) G
  | [w, .tup [.ty c, .ty d]] => ∃ t b, tyS G w = some t ∧ kit2 t c d = some b ∧ q (.bl b) G
  | _ => False
section
variable {X : Cx}
theorem c_isi : CM X (.builtin "isinstance") mIsi := fun pins s σ H vs us Q I rv ⟨ws, G, F, q, dj, rg, rp, h, c⟩ => by
  unfold mIsi at h
  split at h
  · rename_i w cl
    obtain ⟨t, b, ht, hk, h⟩ := h
    obtain ⟨v, v', e, r, r'⟩ := RpL.two rp
    cases (show v' = .ty cl from r')
    subst e
    exact call_isi pins s σ H _ us Q I rv ⟨v, .ty cl, _, _, b, rfl, .ty cl, tyS_at ht rg r, kit_ty hk, c _ _ (Po.here (w := .bl b) dj rg rfl h)⟩
  · rename_i w c1 c2
    obtain ⟨t, b, ht, hk, h⟩ := h
    obtain ⟨v, v', e, r, r'⟩ := RpL.two rp
    obtain ⟨p, vs', e', a, rl⟩ := r'
    obtain ⟨y1, y2, e2, r1, r2⟩ := RpL.two rl
    cases (show y1 = .ty c1 from r1)
    cases (show y2 = .ty c2 from r2)
    subst e e2 e'
    have any : PySem.W.kitAny X.K (.type t) [.type c1, .type c2] = some b := by
      unfold kit2 at hk
      cases h1 : kitB t c1 with
      | none => rw [h1] at hk; cases hk
      | some b1 =>
        rw [h1] at hk
        cases b1 with
        | true => cases hk; exact kitAny_cons (kit_ty h1) (fun z => nomatch z) fun _ => rfl
        | false => exact kitAny_cons (kit_ty h1) (fun _ => kitAny_cons (kit_ty hk) (fun z => by subst z; exact kitAny_nil) fun z => z) fun z => nomatch z
    rcases a with ⟨_, a⟩ | ⟨o, its, m, e, hc, hd, hz, hv⟩
    · exact call_isiT pins s σ H _ us Q I rv ⟨v, p, [.ty c1, .ty c2], _, [.type c1, .type c2], b, rfl, a, .cons (.ty c1) (.cons (.ty c2) .nil), tyS_at ht rg r, any, c _ _ (Po.here (w := .bl b) dj rg rfl h)⟩
    · obtain ⟨oc, od, dt, sl⟩ := o
      simp only at hc hd
      subst hc hd
      have e3 : its.toList = [.type c1, .type c2] := ClsV.all (.cons (.ty c1) (.cons (.ty c2) .nil)) hv
      refine call_isiK pins s σ H _ us Q I rv ⟨v, p, od, [.type c1, .type c2], m, sl, _, b, rfl, ?_, tyS_at ht rg r, any, c _ _ (Po.here (w := .bl b) dj rg rfl h)⟩
      rw [← e3]; exact e
  · exact False.elim h
/-- all([..]) of truths -/
def blsOf : List D → Option (List Bool)
  | [] => some []
  | .bl z :: r => (blsOf r).map (z :: ·)
  | _ :: _ => none
theorem blsOf_rp {K : PySem.W.Frag} {G : Gp} {H : Hp} : ∀ {ws : List D} {vs : List V} {ys : List Bool}, blsOf ws = some ys → RpL K G H ws vs → vs = ys.map V.bl
  | [], vs, ys, e, h => by cases e; exact h
  | w :: ws, vs, ys, e, h => by
    cases w with
    | bl z =>
      unfold blsOf at e
      cases e2 : blsOf ws with
      | none => rw [e2] at e; cases e
      | some us =>
        rw [e2] at e
        cases e
        obtain ⟨v, r, e3, h1, h2⟩ := h
        cases (show v = .bl z from h1)
        rw [e3, blsOf_rp e2 h2]; rfl
    | _ => cases e
theorem blsOf_map (ys : List Bool) : blsOf (ys.map D.bl) = some ys := by
  induction ys with
  | nil => rfl
  | cons y ys ih => rw [List.map_cons, blsOf, ih]; rfl
def mAll : M1 := fun ws G q => match ws with
  | [w] => ∃ xs bs, LstOf G w xs ∧ blsOf xs = some bs ∧ q (.bl (bs.all id)) G
  | _ => False
theorem c_all (hc : X.calm = true) : CM X (.builtin "all") mAll := cm_of (cr_all hc) fun ws vs G F H q dj rg rp h => by
  unfold mAll at h
  split at h
  · obtain ⟨xs, bs, hs, hb, h⟩ := h
    obtain ⟨v, e, r⟩ := RpL.one rp
    obtain ⟨p, ys, ev, sq, rl⟩ := hs.at rg r
    rw [blsOf_rp hb rl] at sq
    subst ev
    exact ⟨p, bs, e, sq, Po.here (w := .bl _) dj rg rfl h⟩
  · exact False.elim h
/-- int(..) of a text, too -/
def mIntS : M1 := fun ws G q => match ws with
  | [.str a] => ∃ n, PySem.intText? a = some n ∧ a.length ≤ 640 ∧ q (.int n) G
  | ws => mInt ws G q
theorem c_intS : CM X (.type "int") mIntS := fun pins s σ H vs us Q I rv ⟨ws, G, F, q, dj, rg, rp, h, c⟩ => by
  unfold mIntS at h
  split at h
  · rename_i a
    obtain ⟨n, hn, hl, h⟩ := h
    obtain ⟨v, e, r⟩ := RpL.one rp
    cases (show v = .str a from r)
    exact call_int_str pins s σ H vs us Q I rv ⟨a, n, e, hn, hl, c _ _ (Po.here (w := .int n) dj rg rfl h)⟩
  · exact c_int pins s σ H vs us Q I rv ⟨ws, G, F, q, dj, rg, rp, h, c⟩
/-- one sign in a text -/
def mInS (neg : Bool) : M2 := fun x y G q => match x, y with
  | .str a, .str z => ∃ c : Nat, a = ⟨#[c]⟩ ∧ q (.bl (if neg then !decide (c ∈ z.cps.toList) else decide (c ∈ z.cps.toList))) G
  | _, _ => False
theorem o_inS : OpM X (compareOp .In) (mInS false) := by
  intro pins s σ H G F x y xv yv v u q I rx ry dj rg px py h
  cases x <;> cases y <;> first | exact False.elim h | skip
  rename_i a z
  obtain ⟨c, rfl, h⟩ := h
  exact op_in_sign pins s σ H xv yv v u _ I rx ry ⟨c, z, px, py, Po.here (w := .bl _) dj rg rfl h⟩
theorem o_notInS : OpM X (compareOp .NotIn) (mInS true) := by
  intro pins s σ H G F x y xv yv v u q I rx ry dj rg px py h
  cases x <;> cases y <;> first | exact False.elim h | skip
  rename_i a z
  obtain ⟨c, rfl, h⟩ := h
  exact op_notIn_sign pins s σ H xv yv v u _ I rx ry ⟨c, z, px, py, Po.here (w := .bl _) dj rg rfl h⟩
/-- text.split(sep) -/
def mSplit (own : Bool) : M2' := fun w ws G q => match w, ws with
  | .str a, [.str b] => (b.length == 0) = false ∧ a.length + 2 ≤ sizeLine ∧ newL own ((Txt.split a b).map D.str) G q
  | _, _ => False
theorem rp_strs {K : PySem.W.Frag} {G : Gp} {H : Hp} : ∀ ys : List Str, RpL K G H (ys.map D.str) (ys.map V.str)
  | [] => .nil
  | y :: ys => .cons rfl (rp_strs ys)
theorem mm_split (own : Bool) : MM X "str.split" (mSplit own) := mm_of mt_split fun w x ws vs G F H q dj rg rx rp h => by
  unfold mSplit at h
  split at h
  · rename_i a b
    obtain ⟨v, e, r⟩ := RpL.one rp
    cases (show v = .str b from r)
    exact ⟨a, b, rx, e, h.1, h.2.1, fun p hp => new_lst dj rg hp (rp_strs _) h.2.2⟩
  · exact False.elim h
end

/-! ### o[i] op= e, o a list -/
def mAugS (To Ti Te : TEm) (m : M2) : TSm := fun d τ G => To τ G fun o G1 => Ti τ G1 fun i G2 => match o, i with
  | .ref a, .int k => ∃ xs w, G2 a = some (.lst xs) ∧ 0 ≤ k ∧ atI xs k = some w ∧ Te τ G2 fun y G3 => m w y G3 fun z G4 => ∃ xs' j, G4 a = some (.lst xs') ∧ ixN xs'.length k = some j ∧ d.nx τ (put G4 a (.lst (xs'.set j z)))
  | _, _ => False
/-- = xs[k], by values -/
def rGetL (K : PySem.W.Frag) : V → V → Hp → VK → Prop := fun x y H Q => ∃ p xs i v, x = .ref p ∧ y = .int i ∧ 0 ≤ i ∧ SqL K H p xs ∧ atI xs i = some v ∧ Q v H
theorem get_listP {X : Cx} : PGet X (rGetL X.K) := by
  intro pins s σ H x y ov iv Q I rx ry h
  obtain ⟨p, xs, i, z, rfl, rfl, h0, hq, he, q⟩ := h
  cases rx
  obtain ⟨t, rfl⟩ := ry
  obtain ⟨its, r, pl, hz⟩ := I.list hq
  obtain ⟨j, h1, h2, h3, h4, h5⟩ := atI_get he
  obtain ⟨w, ew, rw'⟩ := r.get h2
  have hl := r.length
  have hn := line63
  have hj : i.toNat = j := by
    rw [seqIndex_of h0 h5] at h1
    exact Option.some.inj h1
  exact wpAny_getItem_list pl.isList h0 (by omega) (by rw [hj]; simpa using ew) ⟨z, H, I, rw', q⟩
/-- += of numbers -/
def mIAdd : M2 := fun x y G q => match x, y with
  | .int i, .int j => q (.int (i + j)) G
  | _, _ => False
theorem oi_add {X : Cx} : OpM X (inplaceOp .Add) mIAdd := by
  intro pins s σ H G F x y xv yv v u q I rx ry dj rg px py h
  cases x <;> cases y <;> first | exact False.elim h | skip
  exact ip_add pins s σ H xv yv v u _ I rx ry ⟨_, _, px, py, Po.here (w := .int _) dj rg rfl h⟩
theorem ms_augS {B : Bs} {X : Cx} {o i e : Expr} {To Ti Te : TEm} {op : Operator} {m : M2} {tpos pos : Pos} (ho : ME B X o To) (hi : ME B X i Ti) (he : ME B X e Te) (hm : OpM X (inplaceOp op) m)
    (ha : ∀ ov iv new, augStore i ov iv new = (do holding [new, ov, iv] (setItem ov iv new); release [new, ov, iv] []; pure .next) := by intros; rfl) : MS B X (.AugAssign (.Subscript o i tpos) op e pos) (mAugS To Ti Te m) :=
  ms_of (ps_augS ho hi get_listP he (opR_of hm : OpR X (inplaceOp op) _) set_list ha) fun σ H τ G F d dj rs rg h => ⟨τ, G, F, _, dj, rs, rg, h, fun v1 H1 ⟨wo, G1, d1, k1, rg1, r1, h1⟩ => ⟨τ, G1, F, _, d1, rs.kp k1, rg.go k1 rg1, h1, fun v2 H2 ⟨wi, G2, d2, k2, rg2, r2, h2⟩ => by
    cases wo with
    | ref a =>
      cases wi with
      | int k =>
        obtain ⟨xs, w, g, k0, hw, h2⟩ := h2
        cases (show v1 = .ref a from r1)
        cases (show v2 = .int k from r2)
        obtain ⟨vs, hv, rl⟩ := rg2 a _ (jn_some g)
        obtain ⟨v, hv2, rv⟩ := rl.atI hw
        refine ⟨a, vs, k, v, rfl, rfl, k0, .inl (.inl hv), hv2, τ, G2, F, _, d2, (rs.kp k1).kp k2, (rg.go k1 rg1).go k2 rg2, h2, fun v3 H3 ⟨wy, G3, d3, k3, rg3, r3, h3⟩ => ?_⟩
        refine ⟨G3, F, w, wy, _, d3, rg3, rv.kp k3, r3, h3, fun v4 H4 ⟨wz, G4, d4, k4, rg4, r4, h4⟩ => ?_⟩
        obtain ⟨xs', j, g4, hj, h5⟩ := h4
        obtain ⟨vs', hv', rl'⟩ := rg4 a _ (jn_some g4)
        obtain ⟨d5, k5, rg5⟩ := put_step d4 rg4 g4 (rl'.set r4 j)
        exact ⟨a, vs', k, j, rfl, rfl, hv', by rw [rl'.length]; exact hj, τ, _, d5, (((k1.trans k2).trans k3).trans k4).trans k5, rg5, ((((rs.kp k1).kp k2).kp k3).kp k4).kp k5, h5⟩
      | _ => exact False.elim h2
    | _ => exact False.elim h2⟩⟩

/-! ### a, *b = xs, xs a list -/
section
variable {prog : Program} {w : World} {A : Around} {E : Value → Shared → Prop} {s : Shared}
theorem star_list {l : Addr} {u : Value} {us : List Value} {Q : List Value → Shared → Prop} (hl : s.heap.IsList l (u :: us).toArray) (hh : A.handled = none) (hz : us.length ≤ 16000)
    (h : ∀ (h' : Heap) (tk : Nat), (∀ b o, s.heap.get? b = some o → h'.get? b = some o) → Q [u, .ref h'.objs.size] { s with heap := h'.push { cls := .type "list", data := .seq us.toArray }, toks := tk }) : wpAny (model prog w) A (unpackItems (.ref l) 2 (some 1)) Q E s := by
  have hlt : l ≠ s.heap.objs.size := by obtain ⟨o, ho, _⟩ := hl; exact Nat.ne_of_lt (Heap.lt_size ho)
  have hsz : (u :: us).toArray.size = us.length + 1 := by simp
  unfold unpackItems notIterableAtAll
  refine wpAny_bind (wpAny_bind (wpAny_specialOf hl.typeIs PySem.F.slot_list_iter.lookup (wpAny_pure ?_)))
  rw [if_neg (by simp)]
  refine wpAny_bind (wpAny_holding (wpAny_pyIter_list hl (wpAny_bind (wpAny_holding ?_))))
  refine PySem.W.kun_draw hlt 1 0 _ _ ⟨_, Heap.get?_push_size _ rfl, rfl, rfl⟩ (hl.push _) (by omega) fun h₁ hit₁ hs₁ => ?_
  have hl₁ : h₁.IsList l (u :: us).toArray := (hl.push _).extBut hs₁.extBut hlt
  have hit₂ := hit₁
  obtain ⟨oi, hoi, _⟩ := hit₂
  have hl₂ := hl₁
  obtain ⟨ol, hol, _⟩ := hl₂
  show wpAny _ _ (if ([u] : List Value).length < 1 then _ else _) _ _ _
  rw [if_neg (by simp)]
  refine wpAny_bind (wpAny_holding (PySem.W.kun_collect (s := { s with heap := h₁ }) (k := 1) (T := "list_iterator") (.inr (.inr (.inl rfl))) (Walks.list (A := A.in1) hh s.heap.objs.size l hlt (u :: us).toArray) (fun j u st => st.1.typeIs) (by omega) ⟨hit₁, hl₁⟩ (Heap.lt_size hoi) (Heap.lt_size hol) (fun h₂ tk hk => ?_) (by rw [sizeLine_eq]; omega)))
  show wpAny _ _ (if us.length < 2 - 1 - 1 then _ else _) _ _ _
  rw [if_neg (by omega)]
  show wpAny _ _ (newList (us.take (us.length - 0)) >>= fun d => pure ([u] ++ [d] ++ us.drop (us.length - 0))) _ _ _
  rw [Nat.sub_zero, List.take_length, List.drop_length]
  exact wpAny_bind (wpAny_newList (wpAny_pure (h h₂ tk fun b o e => hk b o (Nat.ne_of_lt (Heap.lt_size e)) (hs₁.extBut b o (Nat.ne_of_lt (Heap.lt_size e)) (Heap.get?_push_of_some _ e)))))
end
def gStar (K : PySem.W.Frag) (t : TGs) : TG := fun v σ H Q => ∃ l x xs, v = .ref l ∧ SqL K H l (x :: xs) ∧ xs.length ≤ 16000 ∧ ∀ D, H D = none → t [x, .ref D] σ (upd H D (.lst xs)) Q
theorem pg_star2 {X : Cx} {a b : Expr} {t : TGs} {k : Nat} {p pos : Pos} (hc : X.calm = true) (h : PGs X [a, b] t) (hm : (assignEach [a, .Starred b p] X.env).map (·.2) = (assignEach [a, b] X.env).map (·.2) := by rfl)
    (hn : (assignEach [a, .Starred b p] X.env).length = 2 := by rfl) (hst : (assignEach [a, .Starred b p] X.env).findIdx? (·.1) = some 1 := by rfl) : PG X (.Tuple [a, .Starred b p] k pos) (gStar X.K t) := by
  refine ⟨fun pins s σ H v u Q I r hw => ?_⟩
  obtain ⟨l, x, xs, e1, hq, hl, hw⟩ := hw
  subst e1
  cases r
  obtain ⟨its, rv, pl, hz⟩ := I.list hq
  cases rv with
  | @cons _ u _ us rx rxs =>
    rw [assign_Tuple]
    refine wpAny_bind (wpAny_standAt ?_)
    unfold unpack
    rw [hn, hst]
    refine wpAny_bind (wpAny_holding (star_list (us := us) pl.isList (I.ok.hd hc) (by rw [← rxs.length]; exact hl) fun h' tk hk => ?_))
    rw [hm]
    have I1 : Inv X pins σ H { s with heap := h', toks := tk } := I.kept hk
    have I2 : Inv X pins σ (upd H h'.objs.size (.lst xs)) { s with heap := h'.push { cls := .type "list", data := .seq us.toArray }, toks := tk } :=
      I1.laid (t' := tk) (fun b o e => Heap.get?_push_of_some _ e) (Nat.le_refl _) (show ObjOk X.prog X.w _ _ _ (.lst xs) from ⟨by rw [sizeLine_eq]; omega, us, _, rxs, Heap.get?_push_size _ rfl⟩)
    exact h.run pins _ σ _ [x, .ref h'.objs.size] _ Q I2 (.cons rx (.cons rfl .nil)) (hw _ (I1.hok.fresh (Nat.le_refl _)))
/-- the meaning: the first, then a new list of the others -/
def mStar (i j : Nat) (own : Bool) (Te : TEm) : TSm := fun d τ G => Te τ G fun x G1 => ∃ y ys, LstOf G1 x (y :: ys) ∧ ys.length ≤ 16000 ∧ newL own ys G1 fun r G2 => d.nx ((τ.set i (some y)).set j (some r)) G2
theorem ms_star {B : Bs} {X : Cx} {i j : Nat} {x y : Str} {e : Expr} {Te : TEm} {px py p pt pos : Pos} {k : Nat} (own : Bool) (hc : X.calm = true) (hN : X.N.Nodup) (hi : X.N[i]? = some x) (hj : X.N[j]? = some y) (hx : Loc X.env.scope x) (hy : Loc X.env.scope y) (he : ME B X e Te)
    (hf : X.fn x = true ∨ X.env.scope.names.lookup x = some .local := by first | exact .inl rfl | exact .inr rfl | assumption) (hg : X.fn y = true ∨ X.env.scope.names.lookup y = some .local := by first | exact .inl rfl | exact .inr rfl | assumption)
    (hm : (assignEach [.Name x px, .Starred (.Name y py) p] X.env).map (·.2) = (assignEach [.Name x px, .Name y py] X.env).map (·.2) := by rfl)
    (hn : (assignEach [.Name x px, .Starred (.Name y py) p] X.env).length = 2 := by rfl) (hst : (assignEach [.Name x px, .Starred (.Name y py) p] X.env).findIdx? (·.1) = some 1 := by rfl)
    (hs : swapsWithSole [.Tuple [.Name x px, .Starred (.Name y py) p] k pt] e pos.line X.env = pure false := by rfl) (hw : swappedStores [.Tuple [.Name x px, .Starred (.Name y py) p] k pt] e X.env = pure none := by rfl)
    (h1 : (assignEach [.Tuple [.Name x px, .Starred (.Name y py) p] k pt] X.env).map (·.2) = [assign (.Tuple [.Name x px, .Starred (.Name y py) p] k pt) X.env] := by rfl)
    (q1 : (assignEach [.Name x px, .Name y py] X.env).map (·.2) = assign (.Name x px) X.env :: (assignEach [.Name y py] X.env).map (·.2) := by rfl) (q2 : (assignEach [.Name y py] X.env).map (·.2) = assign (.Name y py) X.env :: (assignEach [] X.env).map (·.2) := by rfl) :
    MS B X (.Assign [.Tuple [.Name x px, .Starred (.Name y py) p] k pt] e pos) (mStar i j own Te) :=
  ms_of (ps_asg he (pg_star2 hc (pgs_cons (pg_name hN hi hx hf) (pgs_cons (pg_name hN hj hy hg) pgs_nil q2) q1) hm hn hst) hs hw h1) fun σ H τ G F d dj rs rg h => ⟨τ, G, F, _, dj, rs, rg, h, fun v H1 ⟨w, G1, d1, k1, rg1, r1, y', ys, hl, hz, h1⟩ => by
    obtain ⟨q, vs, rfl, sq, rl⟩ := hl.at rg1 r1
    obtain ⟨v, t, e, rv, rt⟩ := rl
    subst e
    refine ⟨q, v, t, rfl, sq, by rw [RpL.length rt]; exact hz, fun D hD => ?_⟩
    obtain ⟨w2, G2, d2, k2, rg2, r2, h2⟩ := new_lst d1 rg1 hD rt h1
    have kk := k1.trans k2
    exact ⟨v, [.ref D], rfl, .ref D, [], rfl, rfl, _, G2, d2, kk, rg2, ((rs.kp kk).set (rv.kp k2) i).set r2 j, h2⟩⟩

/-! ### enumerate(xs, start=k) -/
def enumK (k : Int) (ws : List D) : List D := ws.mapIdx fun i w => .tup [.int (k + (i : Nat)), w]
theorem enumK_get {k : Int} {ws : List D} {i : Nat} {w : D} (h : (enumK k ws)[i]? = some w) : ∃ x, ws[i]? = some x ∧ w = .tup [.int (k + (i : Nat)), x] := by
  unfold enumK at h
  rw [List.getElem?_mapIdx] at h
  cases e : ws[i]? with
  | none => rw [e] at h; cases h
  | some x => rw [e] at h; cases h; exact ⟨x, rfl, rfl⟩
theorem enumK_len {k : Int} {ws : List D} : (enumK k ws).length = ws.length := List.length_mapIdx
def mEnumK (Ta Tk : TEm) : TIm := fun τ G r => Ta τ G fun x G1 => Tk τ G1 fun y G2 => match x, y with
  | .lst ws, .int k => (-(2 ^ 62) ≤ k ∧ k < 2 ^ 62) ∧ r (enumK k ws) (fun _ => True) G2
  | _, _ => False
/-- the list at a, each item in a new pair with its number from k -/
def ItK (K : PySem.W.Frag) (k : Int) (a : Addr) : It :=
  ⟨fun i H => ∃ (xs : List V) (x : V), SqL K H a xs ∧ xs[i]? = some x, fun i H v H' => ∃ T x, v = .ref T ∧ H T = none ∧ H' = upd H T (.tup [.int (k + (i : Nat)), x]) ∧ ∀ xs, SqL K H a xs → xs[i]? = some x, fun i H => ∃ xs : List V, SqL K H a xs ∧ xs.length = i⟩
theorem turn_enumK {P : Program} {w : World} {K : PySem.W.Frag} {elts : List Expr} {kk : Nat} {tpos : Pos} (k : Int) (a e it : Addr) (hat : a ≠ it) :
    Turn P w K (.Tuple elts kk tpos) (ItK K k a) [e, it] e (fun i h => (∃ old, IsEnum h e it (k + (i : Nat)) old) ∧ h.IsListIter it a i ∧ e ≠ it ∧ a ≠ e) where
  mem := List.mem_cons_self
  obj := fun i h st b hb => by
    obtain ⟨⟨old, he⟩, ⟨o, ho, hc, hd⟩, _⟩ := st
    rcases List.mem_cons.mp hb with z | z
    · subst z; exact ⟨_, he, fun v q => nomatch q⟩
    · rw [List.mem_singleton.mp z]
      exact ⟨o, ho, fun v q => by rw [hd] at q; cases q⟩
  keep := fun i h h' st kp => by
    obtain ⟨⟨old, he⟩, hi, hne⟩ := st
    exact ⟨⟨old, kp e List.mem_cons_self _ he⟩, hi.at fun o q => kp it (List.mem_cons_of_mem _ List.mem_cons_self) o q, hne⟩
  item := by
    intro X hP hw hK hcalm i pins s σ H E I hf st hg
    subst hP hw hK
    obtain ⟨⟨old, he⟩, hit, hne, hae⟩ := st
    obtain ⟨xs, x, hq, hx⟩ := hg
    obtain ⟨its, rv, p, _⟩ := I.list hq
    obtain ⟨u, hu, ru⟩ := rv.get hx
    have le : e < s.heap.objs.size := Heap.lt_size he
    have li : it < s.heap.objs.size := by obtain ⟨_, q, _⟩ := hit; exact Heap.lt_size q
    have hlt : i < its.toArray.size := by
      have := (List.getElem?_eq_some_iff.mp hu).1
      simpa using this
    refine wpAny_pyNext_enum_itemC (fp := [it, a]) (PySem.Draws.list (A := X.A.in1) (I.ok.hd hcalm) it a hat its.toArray) he ⟨hit, p.isList⟩ hlt hne (by simp; exact ⟨hne, fun z => hae z.symm⟩) fun x' h' tk hP' ho hst' hT hsz hk => ?_
    obtain rfl : x' = u := by
      have h2 : its.toArray[i]? = some x' := hP'
      rw [List.getElem?_toArray, hu] at h2
      exact (Option.some.inj h2).symm
    refine ⟨_, rfl, wpAny_letOwnedTupleGo_enum (s := { s with heap := h', toks := tk + 1 }) ho fun h'' he' sb => ?_⟩
    have hT2 := (sb.2 _ (Nat.ne_of_gt le)).trans hT
    have I1 : Inv X pins σ (upd H s.heap.objs.size (.tup [.int (k + (i : Nat)), x])) { s with heap := h'', toks := tk + 1 } :=
      I.turnedNew (ch := [e, it]) (fun b ob hb q => (sb.2 b fun z => hb (z ▸ List.mem_cons_self)).trans (hk b ob (fun z => hb (z ▸ List.mem_cons_self)) (fun z => hb (z ▸ List.mem_cons_of_mem _ List.mem_cons_self)) q)) hf (Nat.le_refl _)
        ⟨by show 2 ≤ sizeLine; decide, [.int (k + (i : Nat)) tk, x'], .cons ⟨_, rfl⟩ (.cons ru .nil), ⟨_, hT2, rfl, _, rfl⟩⟩
    refine ⟨.ref s.heap.objs.size, _, I1, rfl, ⟨_, x, rfl, I.hok.fresh (Nat.le_refl _), rfl, fun ys hy => by rw [I.list_inj hy hq]; exact hx⟩, ⟨⟨x', ?_⟩, hst'.1.at fun o q => (sb.2 it (Ne.symm hne)).trans q, hne, hae⟩, fun b hb => ?_⟩
    · rw [show k + ((i + 1 : Nat) : Int) = k + (i : Int) + 1 by omega]; exact he'
    · have lb : b < s.heap.objs.size := by
        rcases List.mem_cons.mp hb with z | z
        · rw [z]; exact le
        · rw [List.mem_singleton.mp z]; exact li
      rw [upd_ne (Nat.ne_of_lt lb)]
      exact (hf b hb).1
  done := by
    intro X hP hw hK hcalm i pins s σ H E I hf st hg
    subst hP hw hK
    obtain ⟨⟨old, he⟩, hit, hne, hae⟩ := st
    obtain ⟨xs, hq, hx⟩ := hg
    obtain ⟨its, rv, p, _⟩ := I.list hq
    obtain ⟨f0, f1, f2, f3, f4, f5⟩ := hf it (List.mem_cons_of_mem _ List.mem_cons_self)
    have hn : its.toArray.size = i := by have := rv.length; simp; omega
    exact wpAny_pyNext_enum_endD (fp := [it, a]) (PySem.Draws.list (A := X.A.in1) (I.ok.hd hcalm) it a hat its.toArray) (i := k + (i : Nat)) he ⟨by rw [hn]; exact hit, p.isList⟩ fun h' eb => ⟨rfl, I.turned (t' := s.toks) (fun b o hb q => eb b o hb q) f0 f1 f3 f4 f5⟩
  self := fun A i s Q E st h => by
    obtain ⟨⟨_, he⟩, _⟩ := st
    exact wpAny_pyIter_enum he h
theorem jm_enumK {K : PySem.W.Frag} {R0 : Gp} {H : Hp} {p : Addr} {k : Int} {ws : List D} (h : ∀ R H', Kp R0 H R H' → ∃ vs, SqL K H' p vs ∧ RpL K R H' ws vs) : JM K (ItK K k p) (enumK k ws) (fun _ => True) R0 H := ⟨fun _ _ h => h, fun i G' H' kp rg _ => by
  obtain ⟨vs, sq, rl⟩ := h G' H' kp
  refine ⟨fun w hw => ?_, fun hi => ⟨vs, sq, by rw [rl.length, ← enumK_len (k := k)]; exact hi⟩⟩
  obtain ⟨x, hx, rfl⟩ := enumK_get hw
  obtain ⟨v, hv, rv⟩ := rl.get hx
  refine ⟨⟨vs, v, sq, hv⟩, fun x2 H2 ⟨T, x3, e, hT, eH, y⟩ => ?_⟩
  have e3 := y vs sq
  rw [hv] at e3
  cases e3
  subst e
  subst eH
  exact pair_new rg hT rfl rv⟩
theorem callWith_type_kws {M : Model} {A : Around} {E : Value → Shared → Prop} {s : Shared} {pos : Pos} {T : String} {args : List (Bool × Sem Value)} {kws : List (Option Str × Sem Value)} {Q : Value → Shared → Prop} (hp : args.any (·.1) = false) (hk : kws.any (·.1.isNone) = false)
    (h : wpAny M A (evalArgs (.type T) true args kws) (fun a s₁ => wpAny M A (call (.type T) a.pos a.kw) Q E s₁) E s) : wpAny M A (callWith pos (.type T) [] args kws) Q E s := by
  unfold callWith
  refine wpAny_bind (wpAny_holding (thn h fun a s1 h1 => wpAny_bind (wpAny_standAt ?_)))
  simp only [hp, hk, Bool.or_false, List.nil_append]
  exact wpAny_bind (wpAny_pure (wpAny_bind (thn h1 fun r s2 hr => wpAny_bind (wpAny_holding (wpAny_point (wpAny_pure hr))))))
theorem mi_enumK {B : Bs} {X : Cx} {e ke : Expr} {Te Tk : TEm} {tpos : Pos} {elts : List Expr} {kk : Nat} {p pos kpos : Pos} (hg : Gl X "enumerate") (hm : X.mg "enumerate" = none) (ha : ME B X e Te) (hk : ME B X ke Tk)
    (hs0 : starEach [e] X.env = (false, eval e X.env) :: starEach [] X.env := by rfl) : MI B X (.Tuple elts kk tpos) (.Call (.Name "enumerate" p) [e] [⟨some (Str.ofString "start"), ke, kpos⟩] pos) (mEnumK Te Tk) := by
  refine ⟨fun pins s σ H R I ⟨τ, G, F, r, dj, rs, rb, h, c⟩ => ?_⟩
  refine wpAny_Call_Name_kw (ld_blt I hg hm boot_enumerate ?_)
  rw [hs0]
  refine callWith_type_kws rfl rfl (evalArgs_kwB rfl ?_)
  have h' : mCons Te mNil τ G fun ws G1 => match ws with
      | [x] => Tk τ G1 fun y G2 => match x, y with
        | .lst ws, .int k => (-(2 ^ 62) ≤ k ∧ k < 2 ^ 62) ∧ r (enumK k ws) (fun _ => True) G2
        | _, _ => False
      | _ => False := h
  have hA := (ma_cons (B := B) ha ma_nil hs0).run pos pins s σ H (PoA X.K F G H _) I ⟨τ, G, F, _, dj, rs, rb, h', fun _ _ z => z⟩
  rw [hs0] at hA
  refine thn hA fun us s1 ⟨vs, H1, I1, r1, ws, G1, d1, k1, rg1, rp1, h1⟩ => ?_
  match ws, rp1, h1 with
  | [], _, h1 => exact h1.elim
  | _ :: _ :: _, _, h1 => exact h1.elim
  | [w], rp1, h1 =>
    obtain ⟨v, ev, rv⟩ := RpL.one rp1
    subst ev
    obtain ⟨u, eu, ru⟩ := vals1 r1
    subst eu
    refine kws_cons (thn (hk.run pins s1 σ H1 (Po X.K F G1 H1 _) I1 ⟨τ, G1, F, _, d1, rs.kp k1, rb.go k1 rg1, h1, fun _ _ z => z⟩) fun u2 s2 ⟨yv, H2, I2, r2, w2, G2, d2, k2, rg2, rp2, h2⟩ => kws_nil ?_)
    cases w with
    | lst xs =>
      cases w2 with
      | int k =>
        obtain ⟨⟨b1, b2⟩, h2⟩ := h2
        obtain ⟨q, vs', e1, ht, rl⟩ := rv.kp k2
        subst e1
        cases ru
        cases (show yv = .int k from rp2)
        obtain ⟨t, rfl⟩ := r2
        obtain ⟨its, rvs, p', _⟩ := I2.list ht.sq
        have la : q < s2.heap.objs.size := p'.lt
        refine enum_begins_start (begins_list q its.toArray) p'.isList (by omega) (by omega) fun h' he hit hsz hkp => wpAny_pyIter_enum he ?_
        have I3 : Inv X pins σ H2 { s2 with heap := h' } := I2.kept (t' := s2.toks) hkp
        refine ⟨s2.heap.objs.size + 1, [s2.heap.objs.size + 1, s2.heap.objs.size], _, _, H2, rfl, I3, turn_enumK k q (s2.heap.objs.size + 1) s2.heap.objs.size (Nat.ne_of_lt la), ⟨⟨.none, by rw [show k + ((0 : Nat) : Int) = k by omega]; exact he⟩, ⟨_, hit, rfl, rfl⟩, Nat.succ_ne_self _, Nat.ne_of_lt (Nat.lt_succ_of_lt la)⟩, fun b hb => ?_,
          c _ H2 _ _ G2 d2 (k1.trans k2) rg2 (jm_enumK fun G' H' kk => ⟨vs', (ht.keep kk).sq, rl.kp kk⟩) h2⟩
        have hle : s2.heap.objs.size ≤ b := by
          rcases List.mem_cons.mp hb with z | z
          · rw [z]; exact Nat.le_succ _
          · rw [List.mem_singleton.mp z]; exact Nat.le_refl _
        exact I2.fpOk hle (I2.hok.fresh hle)
      | _ => exact False.elim h2
    | _ => exact False.elim h2
end ML

set_option maxRecDepth 100000
namespace ML
open PySem PySem.Spec L2
open PyProof.Rows hiding St
section
variable {G : Gp} {q : MK} {own neg : Bool} {xs : List D} {i j : Int} {z z' : Str} {x w : D} {b : Bool} {c d : String}
theorem e_isi : mIsi [w, .ty c] G q = ∃ t b, tyS G w = some t ∧ kitB t c = some b ∧ q (.bl b) G := rfl
theorem e_isi2 : mIsi [w, .tup [.ty c, .ty d]] G q = ∃ t b, tyS G w = some t ∧ kit2 t c d = some b ∧ q (.bl b) G := rfl
theorem e_all : mAll [w] G q = ∃ xs bs, LstOf G w xs ∧ blsOf xs = some bs ∧ q (.bl (bs.all id)) G := rfl
theorem e_intS_str : mIntS [.str z] G q = ∃ n, PySem.intText? z = some n ∧ z.length ≤ 640 ∧ q (.int n) G := rfl
theorem e_intS_int : mIntS [.int i] G q = q (.int i) G := rfl
theorem e_inS : mInS neg (.str z) (.str z') G q = ∃ c : Nat, z = ⟨#[c]⟩ ∧ q (.bl (if neg then !decide (c ∈ z'.cps.toList) else decide (c ∈ z'.cps.toList))) G := rfl
theorem e_split : mSplit own (.str z) [.str z'] G q = ((z'.length == 0) = false ∧ z.length + 2 ≤ sizeLine ∧ newL own ((Txt.split z z').map D.str) G q) := rfl
theorem e_ix_str : mIx (.str z) (.int i) G q = (z.length ≤ sizeLine ∧ ∃ c, atI z.cps.toList i = some c ∧ q (.str ⟨#[c]⟩) G) := rfl
theorem e_iadd : mIAdd (.int i) (.int j) G q = q (.int (i + j)) G := rfl
theorem e_tru_non {q : Bool → Gp → Prop} : mTru .non G q = q false G := rfl
theorem e_cond_t {α : Type} {a b : α} : (match true with | true => a | false => b) = a := rfl
end
end ML

set_option maxRecDepth 100000
namespace Q82
open PySem PySem.Spec L2 ML
open PyProof.Rows hiding St
/-! ### the pen -/
def PenO (cells : List Int) (k rest : Int) : MO := .lst [.lst (cells.map D.int), .int k, .int rest]
/-- drawn at most m times -/
def Pen (m : Nat) (o : MO) : Prop := ∃ cells k rest, o = PenO cells k rest ∧ cells.length ≤ 63 ∧ 0 ≤ k ∧ k ≤ (m : Int)
theorem Pen.mono {m n : Nat} {o : MO} (h : Pen m o) (l : m ≤ n) : Pen n o := let ⟨c, k, r, e, a, b, d⟩ := h; ⟨c, k, r, e, a, b, by omega⟩
/-- an entry: none, or a number below n -/
def RefOk (n : Nat) (x : D) : Prop := x = .non ∨ ∃ i : Int, x = .int i ∧ 0 ≤ i ∧ i < n
def RowOk (L : Nat) (P : D → Prop) (row : List D) : Prop := row.length ≤ L ∧ ∀ x ∈ row, P x
def RowsAt (L : Nat) (P : D → Prop) (as : List Addr) (G : Gp) : Prop := ∀ b ∈ as, ∃ row, G b = some (.lst row) ∧ RowOk L P row
/-- numbers below n -/
def NumsIn (n : Nat) (is : List Int) : Prop := ∀ i ∈ is, 0 ≤ i ∧ i < (n : Int)
def SlotOk (n : Nat) (x : D) : Prop := x = .non ∨ ∃ row, x = .tup row ∧ RowOk 40 (RefOk n) row
def OutOk (x : D) : Prop := ∃ i : Int, x = .int i ∧ 0 ≤ i ∧ i ≤ 9
def HeapOk (slots outs : List D) : Prop := slots.length = outs.length ∧ slots.length ≤ 40 ∧ (∀ x ∈ slots, SlotOk slots.length x) ∧ ∀ x ∈ outs, OutOk x
/-- v stands in a row -/
def Held (v : Nat) (slots : List D) : Prop := ∃ row, (D.tup row) ∈ slots ∧ (D.int v) ∈ row
/-- the counts of a heap -/
def Counted (slots outs : List D) : Prop := ∀ v : Nat, ∀ x, slots[v]? = some x → (x = .non → outs[v]? = some (.int 0) ∧ ¬ Held v slots) ∧ (x ≠ .non → outs[v]? ≠ some (.int 0) ∨ Held v slots)
def HomeOk (x : D) : Prop := ∃ slots outs, x = .tup [.tup slots, .tup outs] ∧ HeapOk slots outs ∧ Counted slots outs
/-! ### the texts -/
def cell (x : D) : Str := match x with
  | .int i => toString i
  | _ => "-"
def lineT (row out : D) : Str := match row with
  | .tup xs => Txt.join " " (cell out :: xs.map cell)
  | _ => "free"
def heapT (slots outs : List D) : Str := Txt.join "\n" (List.zipWith lineT slots outs)
/-- a row as parse_slots makes it -/
def thaw (x : D) : D := match x with
  | .tup row => .lst row
  | x => x
/-- every b in as has a row that holds v, for the v below k but 0 -/
def Cov (k : Nat) (as : List Addr) (G : Gp) : Prop := ∀ v : Nat, 1 ≤ v → v < k → ∃ b ∈ as, ∃ row, G b = some (.lst row) ∧ (D.int v) ∈ row
/-! ### the promises -/
def p_is_integer (x : D) (G : Gp) (q : MK) : Prop := ∃ i, x = .int i ∧ q (.bl true) G
def p_is_between (x y z : D) (G : Gp) (q : MK) : Prop := ∃ i l m, x = .int i ∧ y = .int l ∧ z = .int m ∧ q (.bl (decide (l ≤ i) && decide (i ≤ m))) G
def p_is_row (x y : D) (G : Gp) (q : MK) : Prop := ∃ n : Nat, y = .int n ∧ (x = .non ∨ ∃ row, x = .lst row ∧ RowOk 40 (RefOk n) row) ∧ q (.bl true) G
def p_reference_counts (x y : D) (G : Gp) (q : MK) : Prop := ∃ slots outs a b, x = .ref a ∧ y = .ref b ∧ G a = some (.lst (slots.map thaw)) ∧ G b = some (.lst outs) ∧ HeapOk slots outs ∧
  ∀ fs : List Int, fs.length = outs.length → (∀ v : Nat, v < outs.length → (0 < fs.getD v 0 ↔ outs[v]? ≠ some (.int 0) ∨ Held v slots)) → q (.lst (fs.map D.int)) G
def p_first_fault (x y : D) (G : Gp) (q : MK) : Prop := ∃ slots outs a b, x = .ref a ∧ y = .ref b ∧ G a = some (.lst (slots.map thaw)) ∧ G b = some (.lst outs) ∧ HeapOk slots outs ∧ Counted slots outs ∧ q .non G
def p_have_shape (x y : D) (G : Gp) (q : MK) : Prop := ∃ slots outs a b, x = .ref a ∧ y = .ref b ∧ G a = some (.lst slots) ∧ G b = some (.lst outs) ∧ slots.length = outs.length ∧ slots.length ≤ 40 ∧ q (.bl true) G
def p_make_heap (x y : D) (G : Gp) (q : MK) : Prop := ∃ slots outs a b, x = .ref a ∧ y = .ref b ∧ G a = some (.lst (slots.map thaw)) ∧ G b = some (.lst outs) ∧ HeapOk slots outs ∧ Counted slots outs ∧ q (.tup [.tup slots, .tup outs]) G
def p_require_word (x y z : D) (G : Gp) (q : MK) : Prop := x = .bl true ∧ q .non G
def p_number_in (x y : D) (G : Gp) (q : MK) : Prop := ∃ (n : Nat) (w : D), RefOk n w ∧ n ≤ 40 ∧ x = .str (cell w) ∧ y = .int n ∧ q w G
def p_parse_slots (x y z : D) (G : Gp) (q : MK) : Prop := ∃ (n : Nat) (row : List D), RowOk 40 (RefOk n) row ∧ n ≤ 40 ∧ x = .lst (row.map fun w => .str (cell w)) ∧ z = .int n ∧ q (.lst row) G
def p_parse_heap (x : D) (G : Gp) (q : MK) : Prop := ∃ slots outs, x = .str (heapT slots outs) ∧ HeapOk slots outs ∧ Counted slots outs ∧ q (.tup [.tup slots, .tup outs]) G
def p_pen (x : D) (G : Gp) (q : MK) : Prop := ∃ ns : List Int, x = .fz (ns.map D.int) ∧ ∀ a o, G a = none → Pen 0 o → q (.ref a) (put G a o)
def p_draw (x y : D) (G : Gp) (q : MK) : Prop := ∃ a b m o, x = .ref a ∧ y = .int b ∧ 1 ≤ b ∧ b ≤ 10 ^ 30 ∧ G a = some o ∧ Pen m o ∧ m ≤ 100000 ∧ ∀ r o', 0 ≤ r → r < b → Pen (m + 1) o' → q (.int r) (put G a o')
def p_order (x y : D) (G : Gp) (q : MK) : Prop := ∃ a n m o, x = .ref a ∧ y = .int (n : Nat) ∧ n ≤ 1000 ∧ G a = some o ∧ Pen m o ∧ m + n ≤ 100000 ∧
  ∀ is o', is.length = n → NumsIn n is → is.Nodup → Pen (m + n) o' → q (.lst (is.map D.int)) (put G a o')
def p_size (x y : D) (G : Gp) (q : MK) : Prop := ∃ a n m o, x = .ref a ∧ y = .int (n : Nat) ∧ 1 ≤ n ∧ n ≤ 40 ∧ G a = some o ∧ Pen m o ∧ m + 4 ≤ 100000 ∧
  ∀ (r : Nat) o', 1 ≤ r → r ≤ n → Pen (m + 4) o' → q (.int (r : Nat)) (put G a o')
def p_links (x y : D) (G : Gp) (q : MK) : Prop := ∃ a n m o, x = .ref a ∧ y = .int (n : Nat) ∧ 1 ≤ n ∧ n ≤ 40 ∧ G a = some o ∧ Pen m o ∧ m + 1000 ≤ 100000 ∧
  ∀ as G', as.length = n → a ∉ as → as.Nodup → (∀ b ∈ as, G b = none) → RowsAt 40 (RefOk n) as G' → Cov n as G' → (∃ o', G' a = some o' ∧ Pen (m + 1000) o') → (∀ b u, b ≠ a → G b = some u → G' b = some u) → q (.lst (as.map D.ref)) G'
def p_heap (x y : D) (G : Gp) (q : MK) : Prop := ∃ a n m o, x = .ref a ∧ y = .int (n : Nat) ∧ 1 ≤ n ∧ n ≤ 40 ∧ G a = some o ∧ Pen m o ∧ m + 2000 ≤ 100000 ∧
  ∀ slots outs s o', HeapOk slots outs → Counted slots outs → Pen (m + 2000) o' → q (.tup [.tup [.tup slots, .tup outs], s]) (put G a o')
def p_heap_text (x : D) (G : Gp) (q : MK) : Prop := ∃ slots outs, x = .tup [.tup slots, .tup outs] ∧ HeapOk slots outs ∧ q (.str (heapT slots outs)) G
def p_wide (x : D) (G : Gp) (q : MK) : Prop := ∃ a m o, x = .ref a ∧ G a = some o ∧ Pen m o ∧ m + 2000 ≤ 100000 ∧ ∀ h o', HomeOk h → Pen (m + 2000) o' → q h (put G a o')
def p_law (x : D) (G : Gp) (q : MK) : Prop := ∃ ns : List Int, x = .fz (ns.map D.int) ∧ ∀ G', q (.bl true) G'
end Q82

set_option maxRecDepth 100000
namespace Q82
open PySem PySem.Spec L2 ML
open PyProof.Rows hiding St
def top (i : Nat) : Stmt := PySem.Challenge.pw_slotfall_k82_heaps_read.main.body.getD i (.Pass ⟨0, 0, 0, 0⟩)
abbrev s_is_integer : Stmt := top 8
theorem sc_is_integer : FnScope ["value"] ["value"] (defScope s_is_integer) := ⟨rfl, rfl, rfl, by decide +kernel, rfl, by decide +kernel, by decide +kernel⟩
abbrev s_is_between : Stmt := top 9
theorem sc_is_between : FnScope ["value", "least", "most"] ["value", "least", "most"] (defScope s_is_between) := ⟨rfl, rfl, rfl, by decide +kernel, rfl, by decide +kernel, by decide +kernel⟩
abbrev s_is_row : Stmt := top 10
theorem sc_is_row : FnScope ["value", "size", "entry"] ["value", "size"] (defScope s_is_row) := ⟨rfl, rfl, rfl, by decide +kernel, rfl, by decide +kernel, by decide +kernel⟩
abbrev s_reference_counts : Stmt := top 11
theorem sc_reference_counts : FnScope ["slots", "outside", "found", "row", "held"] ["slots", "outside"] (defScope s_reference_counts) := ⟨rfl, rfl, rfl, by decide +kernel, rfl, by decide +kernel, by decide +kernel⟩
abbrev s_first_fault : Stmt := top 12
theorem sc_first_fault : FnScope ["slots", "outside", "size", "node", "found"] ["slots", "outside"] (defScope s_first_fault) := ⟨rfl, rfl, rfl, by decide +kernel, rfl, by decide +kernel, by decide +kernel⟩
abbrev s_have_shape : Stmt := top 13
theorem sc_have_shape : FnScope ["slots", "outside"] ["slots", "outside"] (defScope s_have_shape) := ⟨rfl, rfl, rfl, by decide +kernel, rfl, by decide +kernel, by decide +kernel⟩
abbrev s_make_heap : Stmt := top 14
theorem sc_make_heap : FnScope ["slots", "outside", "fault", "row"] ["slots", "outside"] (defScope s_make_heap) := ⟨rfl, rfl, rfl, by decide +kernel, rfl, by decide +kernel, by decide +kernel⟩
abbrev s_require_word : Stmt := top 18
theorem sc_require_word : FnScope ["is_valid", "line", "word"] ["is_valid", "line", "word"] (defScope s_require_word) := ⟨rfl, rfl, rfl, by decide +kernel, rfl, by decide +kernel, by decide +kernel⟩
abbrev s_number_in : Stmt := top 19
theorem sc_number_in : FnScope ["word", "bound", "sign"] ["word", "bound"] (defScope s_number_in) := ⟨rfl, rfl, rfl, by decide +kernel, rfl, by decide +kernel, by decide +kernel⟩
abbrev s_parse_slots : Stmt := top 20
theorem sc_parse_slots : FnScope ["words", "line", "size", "found", "index", "word", "held"] ["words", "line", "size"] (defScope s_parse_slots) := ⟨rfl, rfl, rfl, by decide +kernel, rfl, by decide +kernel, by decide +kernel⟩
abbrev s_parse_heap : Stmt := top 21
theorem sc_parse_heap : FnScope ["text", "lines", "slots", "outside", "line", "content", "first", "rest", "is_digit"] ["text"] (defScope s_parse_heap) := ⟨rfl, rfl, rfl, by decide +kernel, rfl, by decide +kernel, by decide +kernel⟩
abbrev s_pen : Stmt := top 23
theorem sc_pen : FnScope ["_law_script"] ["_law_script"] (defScope s_pen) := ⟨rfl, rfl, rfl, by decide +kernel, rfl, by decide +kernel, by decide +kernel⟩
abbrev s_draw : Stmt := top 24
theorem sc_draw : FnScope ["_law_pen_here", "_law_bound", "_law_digit", "_law_at", "_law_cell", "_law_great", "_law_mixed"] ["_law_pen_here", "_law_bound"] (defScope s_draw) := ⟨rfl, rfl, rfl, by decide +kernel, rfl, by decide +kernel, by decide +kernel⟩
abbrev s_order : Stmt := top 25
theorem sc_order : FnScope ["_law_pen_here", "_law_size_here", "_law_left", "_law_k"] ["_law_pen_here", "_law_size_here"] (defScope s_order) := ⟨rfl, rfl, rfl, by decide +kernel, rfl, by decide +kernel, by decide +kernel⟩
abbrev s_size : Stmt := top 26
theorem sc_size : FnScope ["_law_pen_here", "_law_most", "_law_way"] ["_law_pen_here", "_law_most"] (defScope s_size) := ⟨rfl, rfl, rfl, by decide +kernel, rfl, by decide +kernel, by decide +kernel⟩
abbrev s_links : Stmt := top 27
theorem sc_links : FnScope ["_law_pen_here", "_law_size_here", "_law_way", "_law_deep", "_law_rows", "_law_k", "_law_v", "_law_holder", "_law_row", "_law_a", "_law_b"] ["_law_pen_here", "_law_size_here"] (defScope s_links) := ⟨rfl, rfl, rfl, by decide +kernel, rfl, by decide +kernel, by decide +kernel⟩
abbrev s_heap : Stmt := top 28
theorem sc_heap : FnScope ["_law_pen_here", "_law_most", "_law_size_here", "_law_rows", "_law_spare", "_law_names", "_law_slots", "_law_outside", "_law_v", "_law_held"] ["_law_pen_here", "_law_most"] (defScope s_heap) := ⟨rfl, rfl, rfl, by decide +kernel, rfl, by decide +kernel, by decide +kernel⟩
abbrev s_heap_text : Stmt := top 29
theorem sc_heap_text : FnScope ["_law_home", "_law_lines", "_law_v", "_law_row", "_law_line", "_law_held"] ["_law_home"] (defScope s_heap_text) := ⟨rfl, rfl, rfl, by decide +kernel, rfl, by decide +kernel, by decide +kernel⟩
abbrev s_wide : Stmt := top 30
theorem sc_wide : FnScope ["_law_pen_here", "_law_size_here", "_law_most", "_law_rows", "_law_v", "_law_some", "_law_at", "_law_held"] ["_law_pen_here"] (defScope s_wide) := ⟨rfl, rfl, rfl, by decide +kernel, rfl, by decide +kernel, by decide +kernel⟩
abbrev s_law : Stmt := top 31
theorem sc_law : FnScope ["_law_script", "_law_pen_here", "_law_full", "_law_homes", "_law_home", "_law_page"] ["_law_script"] (defScope s_law) := ⟨rfl, rfl, rfl, by decide +kernel, rfl, by decide +kernel, by decide +kernel⟩
structure Prg (K : PySem.W.Frag) (mg : Str → Option Value) where
  f_is_integer : Addr
  fd_is_integer : FuncData
  d_is_integer : Df K mg "is_integer" s_is_integer f_is_integer fd_is_integer ["value"]
  f_is_between : Addr
  fd_is_between : FuncData
  d_is_between : Df K mg "is_between" s_is_between f_is_between fd_is_between ["value", "least", "most"]
  f_is_row : Addr
  fd_is_row : FuncData
  d_is_row : Df K mg "is_row" s_is_row f_is_row fd_is_row ["value", "size"]
  f_reference_counts : Addr
  fd_reference_counts : FuncData
  d_reference_counts : Df K mg "reference_counts" s_reference_counts f_reference_counts fd_reference_counts ["slots", "outside"]
  f_first_fault : Addr
  fd_first_fault : FuncData
  d_first_fault : Df K mg "first_fault" s_first_fault f_first_fault fd_first_fault ["slots", "outside"]
  f_have_shape : Addr
  fd_have_shape : FuncData
  d_have_shape : Df K mg "have_shape" s_have_shape f_have_shape fd_have_shape ["slots", "outside"]
  f_make_heap : Addr
  fd_make_heap : FuncData
  d_make_heap : Df K mg "make_heap" s_make_heap f_make_heap fd_make_heap ["slots", "outside"]
  f_require_word : Addr
  fd_require_word : FuncData
  d_require_word : Df K mg "require_word" s_require_word f_require_word fd_require_word ["is_valid", "line", "word"]
  f_number_in : Addr
  fd_number_in : FuncData
  d_number_in : Df K mg "number_in" s_number_in f_number_in fd_number_in ["word", "bound"]
  f_parse_slots : Addr
  fd_parse_slots : FuncData
  d_parse_slots : Df K mg "parse_slots" s_parse_slots f_parse_slots fd_parse_slots ["words", "line", "size"]
  f_parse_heap : Addr
  fd_parse_heap : FuncData
  d_parse_heap : Df K mg "parse_heap" s_parse_heap f_parse_heap fd_parse_heap ["text"]
  f_pen : Addr
  fd_pen : FuncData
  d_pen : Df K mg "_law_pen" s_pen f_pen fd_pen ["_law_script"]
  f_draw : Addr
  fd_draw : FuncData
  d_draw : Df K mg "_law_draw" s_draw f_draw fd_draw ["_law_pen_here", "_law_bound"]
  f_order : Addr
  fd_order : FuncData
  d_order : Df K mg "_law_order" s_order f_order fd_order ["_law_pen_here", "_law_size_here"]
  f_size : Addr
  fd_size : FuncData
  d_size : Df K mg "_law_size" s_size f_size fd_size ["_law_pen_here", "_law_most"]
  f_links : Addr
  fd_links : FuncData
  d_links : Df K mg "_law_links" s_links f_links fd_links ["_law_pen_here", "_law_size_here"]
  f_heap : Addr
  fd_heap : FuncData
  d_heap : Df K mg "_law_heap" s_heap f_heap fd_heap ["_law_pen_here", "_law_most"]
  f_heap_text : Addr
  fd_heap_text : FuncData
  d_heap_text : Df K mg "_law_heap_text" s_heap_text f_heap_text fd_heap_text ["_law_home"]
  f_wide : Addr
  fd_wide : FuncData
  d_wide : Df K mg "_law_wide" s_wide f_wide fd_wide ["_law_pen_here"]
  f_law : Addr
  fd_law : FuncData
  d_law : Df K mg "law" s_law f_law fd_law ["_law_script"]
  n_abs : mg "abs" = none
  n_all : mg "all" = none
  n_bool : mg "bool" = none
  n_enumerate : mg "enumerate" = none
  n_int : mg "int" = none
  n_isinstance : mg "isinstance" = none
  n_len : mg "len" = none
  n_list : mg "list" = none
  n_max : mg "max" = none
  n_min : mg "min" = none
  n_range : mg "range" = none
  n_repr : mg "repr" = none
  n_str : mg "str" = none
  n_tuple : mg "tuple" = none
  g_DIGITS : ∃ t, mg "DIGITS" = some (.str "0123456789" t)
  g_MOST_DIGITS : ∃ t, mg "MOST_DIGITS" = some (.int 9 t)
  g_MOST_NODES : ∃ t, mg "MOST_NODES" = some (.int 40 t)
  g_MOST_OUTSIDE : ∃ t, mg "MOST_OUTSIDE" = some (.int 9 t)
  g_MOST_SLOTS : ∃ t, mg "MOST_SLOTS" = some (.int 40 t)
def sp_is_integer : MSp := fun ws G q _ => match ws with
  | [x0] => p_is_integer x0 G q
  | _ => False
theorem e_sp_is_integer (x0 : D) (G : Gp) (q : MK) (E : MX) : sp_is_integer [x0] G q E = p_is_integer x0 G q := rfl
theorem len_is_integer (ws : List D) (G : Gp) (Q : MK) (E : MX) (h : sp_is_integer ws G Q E) : ws.length = 1 := by
  unfold sp_is_integer at h; split at h
  · rfl
  · exact h.elim
def sp_is_between : MSp := fun ws G q _ => match ws with
  | [x0, x1, x2] => p_is_between x0 x1 x2 G q
  | _ => False
theorem e_sp_is_between (x0 x1 x2 : D) (G : Gp) (q : MK) (E : MX) : sp_is_between [x0, x1, x2] G q E = p_is_between x0 x1 x2 G q := rfl
theorem len_is_between (ws : List D) (G : Gp) (Q : MK) (E : MX) (h : sp_is_between ws G Q E) : ws.length = 3 := by
  unfold sp_is_between at h; split at h
  · rfl
  · exact h.elim
def sp_is_row : MSp := fun ws G q _ => match ws with
  | [x0, x1] => p_is_row x0 x1 G q
  | _ => False
theorem e_sp_is_row (x0 x1 : D) (G : Gp) (q : MK) (E : MX) : sp_is_row [x0, x1] G q E = p_is_row x0 x1 G q := rfl
theorem len_is_row (ws : List D) (G : Gp) (Q : MK) (E : MX) (h : sp_is_row ws G Q E) : ws.length = 2 := by
  unfold sp_is_row at h; split at h
  · rfl
  · exact h.elim
def sp_reference_counts : MSp := fun ws G q _ => match ws with
  | [x0, x1] => p_reference_counts x0 x1 G q
  | _ => False
theorem e_sp_reference_counts (x0 x1 : D) (G : Gp) (q : MK) (E : MX) : sp_reference_counts [x0, x1] G q E = p_reference_counts x0 x1 G q := rfl
theorem len_reference_counts (ws : List D) (G : Gp) (Q : MK) (E : MX) (h : sp_reference_counts ws G Q E) : ws.length = 2 := by
  unfold sp_reference_counts at h; split at h
  · rfl
  · exact h.elim
def sp_first_fault : MSp := fun ws G q _ => match ws with
  | [x0, x1] => p_first_fault x0 x1 G q
  | _ => False
theorem e_sp_first_fault (x0 x1 : D) (G : Gp) (q : MK) (E : MX) : sp_first_fault [x0, x1] G q E = p_first_fault x0 x1 G q := rfl
theorem len_first_fault (ws : List D) (G : Gp) (Q : MK) (E : MX) (h : sp_first_fault ws G Q E) : ws.length = 2 := by
  unfold sp_first_fault at h; split at h
  · rfl
  · exact h.elim
def sp_have_shape : MSp := fun ws G q _ => match ws with
  | [x0, x1] => p_have_shape x0 x1 G q
  | _ => False
theorem e_sp_have_shape (x0 x1 : D) (G : Gp) (q : MK) (E : MX) : sp_have_shape [x0, x1] G q E = p_have_shape x0 x1 G q := rfl
theorem len_have_shape (ws : List D) (G : Gp) (Q : MK) (E : MX) (h : sp_have_shape ws G Q E) : ws.length = 2 := by
  unfold sp_have_shape at h; split at h
  · rfl
  · exact h.elim
def sp_make_heap : MSp := fun ws G q _ => match ws with
  | [x0, x1] => p_make_heap x0 x1 G q
  | _ => False
theorem e_sp_make_heap (x0 x1 : D) (G : Gp) (q : MK) (E : MX) : sp_make_heap [x0, x1] G q E = p_make_heap x0 x1 G q := rfl
theorem len_make_heap (ws : List D) (G : Gp) (Q : MK) (E : MX) (h : sp_make_heap ws G Q E) : ws.length = 2 := by
  unfold sp_make_heap at h; split at h
  · rfl
  · exact h.elim
def sp_require_word : MSp := fun ws G q _ => match ws with
  | [x0, x1, x2] => p_require_word x0 x1 x2 G q
  | _ => False
theorem e_sp_require_word (x0 x1 x2 : D) (G : Gp) (q : MK) (E : MX) : sp_require_word [x0, x1, x2] G q E = p_require_word x0 x1 x2 G q := rfl
theorem len_require_word (ws : List D) (G : Gp) (Q : MK) (E : MX) (h : sp_require_word ws G Q E) : ws.length = 3 := by
  unfold sp_require_word at h; split at h
  · rfl
  · exact h.elim
def sp_number_in : MSp := fun ws G q _ => match ws with
  | [x0, x1] => p_number_in x0 x1 G q
  | _ => False
theorem e_sp_number_in (x0 x1 : D) (G : Gp) (q : MK) (E : MX) : sp_number_in [x0, x1] G q E = p_number_in x0 x1 G q := rfl
theorem len_number_in (ws : List D) (G : Gp) (Q : MK) (E : MX) (h : sp_number_in ws G Q E) : ws.length = 2 := by
  unfold sp_number_in at h; split at h
  · rfl
  · exact h.elim
def sp_parse_slots : MSp := fun ws G q _ => match ws with
  | [x0, x1, x2] => p_parse_slots x0 x1 x2 G q
  | _ => False
theorem e_sp_parse_slots (x0 x1 x2 : D) (G : Gp) (q : MK) (E : MX) : sp_parse_slots [x0, x1, x2] G q E = p_parse_slots x0 x1 x2 G q := rfl
theorem len_parse_slots (ws : List D) (G : Gp) (Q : MK) (E : MX) (h : sp_parse_slots ws G Q E) : ws.length = 3 := by
  unfold sp_parse_slots at h; split at h
  · rfl
  · exact h.elim
def sp_parse_heap : MSp := fun ws G q _ => match ws with
  | [x0] => p_parse_heap x0 G q
  | _ => False
theorem e_sp_parse_heap (x0 : D) (G : Gp) (q : MK) (E : MX) : sp_parse_heap [x0] G q E = p_parse_heap x0 G q := rfl
theorem len_parse_heap (ws : List D) (G : Gp) (Q : MK) (E : MX) (h : sp_parse_heap ws G Q E) : ws.length = 1 := by
  unfold sp_parse_heap at h; split at h
  · rfl
  · exact h.elim
def sp_pen : MSp := fun ws G q _ => match ws with
  | [x0] => p_pen x0 G q
  | _ => False
theorem e_sp_pen (x0 : D) (G : Gp) (q : MK) (E : MX) : sp_pen [x0] G q E = p_pen x0 G q := rfl
theorem len_pen (ws : List D) (G : Gp) (Q : MK) (E : MX) (h : sp_pen ws G Q E) : ws.length = 1 := by
  unfold sp_pen at h; split at h
  · rfl
  · exact h.elim
def sp_draw : MSp := fun ws G q _ => match ws with
  | [x0, x1] => p_draw x0 x1 G q
  | _ => False
theorem e_sp_draw (x0 x1 : D) (G : Gp) (q : MK) (E : MX) : sp_draw [x0, x1] G q E = p_draw x0 x1 G q := rfl
theorem len_draw (ws : List D) (G : Gp) (Q : MK) (E : MX) (h : sp_draw ws G Q E) : ws.length = 2 := by
  unfold sp_draw at h; split at h
  · rfl
  · exact h.elim
def sp_order : MSp := fun ws G q _ => match ws with
  | [x0, x1] => p_order x0 x1 G q
  | _ => False
theorem e_sp_order (x0 x1 : D) (G : Gp) (q : MK) (E : MX) : sp_order [x0, x1] G q E = p_order x0 x1 G q := rfl
theorem len_order (ws : List D) (G : Gp) (Q : MK) (E : MX) (h : sp_order ws G Q E) : ws.length = 2 := by
  unfold sp_order at h; split at h
  · rfl
  · exact h.elim
def sp_size : MSp := fun ws G q _ => match ws with
  | [x0, x1] => p_size x0 x1 G q
  | _ => False
theorem e_sp_size (x0 x1 : D) (G : Gp) (q : MK) (E : MX) : sp_size [x0, x1] G q E = p_size x0 x1 G q := rfl
theorem len_size (ws : List D) (G : Gp) (Q : MK) (E : MX) (h : sp_size ws G Q E) : ws.length = 2 := by
  unfold sp_size at h; split at h
  · rfl
  · exact h.elim
def sp_links : MSp := fun ws G q _ => match ws with
  | [x0, x1] => p_links x0 x1 G q
  | _ => False
theorem e_sp_links (x0 x1 : D) (G : Gp) (q : MK) (E : MX) : sp_links [x0, x1] G q E = p_links x0 x1 G q := rfl
theorem len_links (ws : List D) (G : Gp) (Q : MK) (E : MX) (h : sp_links ws G Q E) : ws.length = 2 := by
  unfold sp_links at h; split at h
  · rfl
  · exact h.elim
def sp_heap : MSp := fun ws G q _ => match ws with
  | [x0, x1] => p_heap x0 x1 G q
  | _ => False
theorem e_sp_heap (x0 x1 : D) (G : Gp) (q : MK) (E : MX) : sp_heap [x0, x1] G q E = p_heap x0 x1 G q := rfl
theorem len_heap (ws : List D) (G : Gp) (Q : MK) (E : MX) (h : sp_heap ws G Q E) : ws.length = 2 := by
  unfold sp_heap at h; split at h
  · rfl
  · exact h.elim
def sp_heap_text : MSp := fun ws G q _ => match ws with
  | [x0] => p_heap_text x0 G q
  | _ => False
theorem e_sp_heap_text (x0 : D) (G : Gp) (q : MK) (E : MX) : sp_heap_text [x0] G q E = p_heap_text x0 G q := rfl
theorem len_heap_text (ws : List D) (G : Gp) (Q : MK) (E : MX) (h : sp_heap_text ws G Q E) : ws.length = 1 := by
  unfold sp_heap_text at h; split at h
  · rfl
  · exact h.elim
def sp_wide : MSp := fun ws G q _ => match ws with
  | [x0] => p_wide x0 G q
  | _ => False
theorem e_sp_wide (x0 : D) (G : Gp) (q : MK) (E : MX) : sp_wide [x0] G q E = p_wide x0 G q := rfl
theorem len_wide (ws : List D) (G : Gp) (Q : MK) (E : MX) (h : sp_wide ws G Q E) : ws.length = 1 := by
  unfold sp_wide at h; split at h
  · rfl
  · exact h.elim
def sp_law : MSp := fun ws G q _ => match ws with
  | [x0] => p_law x0 G q
  | _ => False
theorem e_sp_law (x0 : D) (G : Gp) (q : MK) (E : MX) : sp_law [x0] G q E = p_law x0 G q := rfl
theorem len_law (ws : List D) (G : Gp) (Q : MK) (E : MX) (h : sp_law ws G Q E) : ws.length = 1 := by
  unfold sp_law at h; split at h
  · rfl
  · exact h.elim
section
variable {P : Program} {w : World} {K : PySem.W.Frag} {mg : Str → Option Value} {base : Heap}
def b_is_integer : TSm := (mRet (mAnd (mCB mIsi (mCons (mVar 0) (mCons (mC (.ty "int")) mNil))) (mNot (mCB mIsi (mCons (mVar 0) (mCons (mC (.ty "bool")) mNil))))))
theorem walk_is_integer (T : Prg K mg)  {B : Bs} {cdv : Value} {A : Around} {outer : List Env} {s : Shared} {H : Hp} {xe : XK} (hr : Rm 0 (A.deeper (envOfC "is_integer" (defScope s_is_integer) s.heap.objs.size T.f_is_integer cdv))) :
    MSs B (cxOf (L2.CX P w) P w K mg base ["value"] "is_integer" (defScope s_is_integer) T.f_is_integer cdv A outer s H xe).nox (defBody s_is_integer) b_is_integer :=
  (mss_one (ms_ret (m_andE (m_callB c_isi (by rfl) T.n_isinstance bb_isinstance (ma_cons (mv 0) (ma_cons (m_type (by rfl) T.n_int bb_int) ma_nil))) (m_one (m_not (m_callB c_isi (by rfl) T.n_isinstance bb_isinstance (ma_cons (mv 0) (ma_cons (m_type (by rfl) T.n_bool bb_bool) ma_nil))))))))
def b_is_between : TSm := (mRet (mAnd (mCall sp_is_integer noX (mCons (mVar 0) mNil)) (mChain mLe mLe (mVar 1) (mVar 0) (mVar 2))))
theorem walk_is_between (T : Prg K mg) (g_is_integer : FnG P w K mg base 1 T.f_is_integer T.fd_is_integer ["value"] sp_is_integer) {B : Bs} {cdv : Value} {A : Around} {outer : List Env} {s : Shared} {H : Hp} {xe : XK} (hr : Rm 1 (A.deeper (envOfC "is_between" (defScope s_is_between) s.heap.objs.size T.f_is_between cdv))) :
    MSs B (cxOf (L2.CX P w) P w K mg base ["value", "least", "most"] "is_between" (defScope s_is_between) T.f_is_between cdv A outer s H xe).nox (defBody s_is_between) b_is_between :=
  (mss_one (ms_ret (m_andE (m_call g_is_integer (hr.mono (by decide)) (by rfl) T.d_is_integer.mgx T.d_is_integer.kp T.d_is_integer.bd (ma_cons (mv 0) ma_nil)) (m_one (m_chain o_le o_le (mv 1) (mv 0) (mv 2))))))
def b_is_row_5 : TSm := (mRet (mCB mAll (mCons (mLc false (mSeqI (mVar 0)) (.nm 2) mYes (mOr (mOp mIsN (mVar 2) (mC .non)) (mCall sp_is_between noX (mCons (mVar 2) (mCons (mC (.int 0)) (mCons (mOp mSub (mVar 1) (mC (.int 1))) mNil))))) [2]) mNil)))
def b_is_row_4 : TSm := (mRet (mC (.bl false)))
def b_is_row_3 : TSm := (mSeq (mIfS (mOrT (mNotT (mTruT (mCB mIsi (mCons (mVar 0) (mCons (mTup (mCons (mC (.ty "list")) (mCons (mC (.ty "tuple")) mNil))) mNil))))) (mTest (mOp mGt (mCB mLen (mCons (mVar 0) mNil)) (mC (.int 40))))) b_is_row_4 mNext) b_is_row_5)
def b_is_row_2 : TSm := (mRet (mC (.bl true)))
def b_is_row : TSm := (mSeq (mIfS (mTest (mOp mIsN (mVar 0) (mC .non))) b_is_row_2 mNext) b_is_row_3)
theorem walk_is_row (T : Prg K mg) (g_is_between : FnG P w K mg base 2 T.f_is_between T.fd_is_between ["value", "least", "most"] sp_is_between) {B : Bs} {cdv : Value} {A : Around} {outer : List Env} {s : Shared} {H : Hp} {xe : XK} (hr : Rm 2 (A.deeper (envOfC "is_row" (defScope s_is_row) s.heap.objs.size T.f_is_row cdv))) :
    MSs B (cxOf (L2.CX P w) P w K mg base ["value", "size", "entry"] "is_row" (defScope s_is_row) T.f_is_row cdv A outer s H xe).nox (defBody s_is_row) b_is_row :=
  (mss_cons (ms_if (mt_cmp o_isN (mv 0) m_non) (mss_one (ms_ret m_bl)) mss_nil)
    (mss_cons (ms_if ((mw_or (mt_not (mt_truth (m_callB c_isi (by rfl) T.n_isinstance bb_isinstance (ma_cons (mv 0) (ma_cons (m_tup (ma_cons (m_type (by rfl) T.n_list bb_list) (ma_cons (m_type (by rfl) T.n_tuple bb_tuple) ma_nil))) ma_nil))))) (mw_or1 (mt_cmp o_gt (m_callB c_len (by rfl) T.n_len bb_len (ma_cons (mv 0) ma_nil)) (m_gint (by rfl) T.g_MOST_SLOTS))))).mt (mss_one (ms_ret m_bl)) mss_nil)
    (mss_one (ms_ret (m_callB (c_all rfl) (by rfl) T.n_all bb_all (ma_cons (m_lc false rfl sc_is_row.nd (mi_seq (mv 0)) (blkOk_by (own := [("entry", 2)]) (by kernel_rfl)) (by decide) (fun _ _ _ _ _ => (mg_name (i := 2) sc_is_row.nd rfl (by first | exact Or.inl rfl | exact Or.inr rfl))) (fun _ _ _ _ _ => mts_nil) (fun _ _ _ _ _ => (m_orE (m_cmp o_isN (mv 2) m_non) (m_one (m_call g_is_between (hr.mono (by decide)) (by rfl) T.d_is_between.mgx T.d_is_between.kp T.d_is_between.bd (ma_cons (mv 2) (ma_cons m_int (ma_cons (m_op o_sub (mv 1) m_int) ma_nil)))))))) ma_nil))))))
def b_reference_counts_6 : TSm := (mRet (mVar 2))
def b_reference_counts_5 : TSm := (mAugS (mVar 2) (mVar 4) (mC (.int 1)) mIAdd)
def b_reference_counts_4 : TSm := (mIfS (mTest (mOp mNotN (mVar 4) (mC .non))) b_reference_counts_5 mNext)
def b_reference_counts_3 : TSm := (mFor (mSeqI (mOr (mVar 3) (mTup mNil))) (.nm 4) b_reference_counts_4)
def b_reference_counts_2 : TSm := (mSeq (mFor (mSeqI (mVar 0)) (.nm 3) b_reference_counts_3) b_reference_counts_6)
def b_reference_counts : TSm := (mSeq (mAsg (mCB (mList true) (mCons (mVar 1) mNil)) (.nm 2)) b_reference_counts_2)
theorem walk_reference_counts (T : Prg K mg)  {B : Bs} {cdv : Value} {A : Around} {outer : List Env} {s : Shared} {H : Hp} {xe : XK} (hr : Rm 0 (A.deeper (envOfC "reference_counts" (defScope s_reference_counts) s.heap.objs.size T.f_reference_counts cdv))) :
    MSs B (cxOf (L2.CX P w) P w K mg base ["slots", "outside", "found", "row", "held"] "reference_counts" (defScope s_reference_counts) T.f_reference_counts cdv A outer s H xe).nox (defBody s_reference_counts) b_reference_counts :=
  (mss_cons (ms_set (i := 2) sc_reference_counts.nd rfl (by first | exact Or.inl rfl | exact Or.inr rfl) (m_callTy (c_list true) (by rfl) T.n_list bb_list (ma_cons (mv 1) ma_nil)))
    (mss_cons (ms_for PassesOwn.never rfl (mi_seq (mv 0)) (mg_name (i := 3) sc_reference_counts.nd rfl (by first | exact Or.inl rfl | exact Or.inr rfl)) (mss_one (ms_for PassesOwn.never rfl (mi_seq (m_orE (mv 3) (m_one (m_tup ma_nil)))) (mg_name (i := 4) sc_reference_counts.nd rfl (by first | exact Or.inl rfl | exact Or.inr rfl)) (mss_one (ms_if (mt_cmp o_notN (mv 4) m_non) (mss_one (ms_augS (mv 2) (mv 4) m_int oi_add)) mss_nil)))))
    (mss_one (ms_ret (mv 2)))))
def b_first_fault_15 : TSm := (mRet (mC .non))
def b_first_fault_14 : TSm := (mRet (mTup (mCons (mC (.str "count")) (mCons (mVar 3) mNil))))
def b_first_fault_13 : TSm := (mIfS (mAndT (mTest (mOp mNotN (mOp mIx (mVar 0) (mVar 3)) (mC .non))) (mTest (mOp mEq (mOp mIx (mVar 4) (mVar 3)) (mC (.int 0))))) b_first_fault_14 mNext)
def b_first_fault_12 : TSm := (mSeq (mFor (mRng1 (mVar 2)) (.nm 3) b_first_fault_13) b_first_fault_15)
def b_first_fault_11 : TSm := (mRet (mTup (mCons (mC (.str "free")) (mCons (mVar 3) mNil))))
def b_first_fault_10 : TSm := (mIfS (mAndT (mTest (mOp mIsN (mOp mIx (mVar 0) (mVar 3)) (mC .non))) (mTest (mOp mGt (mOp mIx (mVar 4) (mVar 3)) (mC (.int 0))))) b_first_fault_11 mNext)
def b_first_fault_9 : TSm := (mSeq (mFor (mRng1 (mVar 2)) (.nm 3) b_first_fault_10) b_first_fault_12)
def b_first_fault_8 : TSm := (mSeq (mAsg (mCall sp_reference_counts noX (mCons (mVar 0) (mCons (mVar 1) mNil))) (.nm 4)) b_first_fault_9)
def b_first_fault_7 : TSm := (mRet (mTup (mCons (mC (.str "outside")) (mCons (mVar 3) mNil))))
def b_first_fault_6 : TSm := (mIfS (mNotT (mTruT (mCall sp_is_between noX (mCons (mOp mIx (mVar 1) (mVar 3)) (mCons (mC (.int 0)) (mCons (mC (.int 9)) mNil)))))) b_first_fault_7 mNext)
def b_first_fault_5 : TSm := (mSeq (mFor (mRng1 (mVar 2)) (.nm 3) b_first_fault_6) b_first_fault_8)
def b_first_fault_4 : TSm := (mRet (mTup (mCons (mC (.str "slots")) (mCons (mVar 3) mNil))))
def b_first_fault_3 : TSm := (mIfS (mNotT (mTruT (mCall sp_is_row noX (mCons (mOp mIx (mVar 0) (mVar 3)) (mCons (mVar 2) mNil))))) b_first_fault_4 mNext)
def b_first_fault_2 : TSm := (mSeq (mFor (mRng1 (mVar 2)) (.nm 3) b_first_fault_3) b_first_fault_5)
def b_first_fault : TSm := (mSeq (mAsg (mCB mLen (mCons (mVar 0) mNil)) (.nm 2)) b_first_fault_2)
theorem walk_first_fault (T : Prg K mg) (g_reference_counts : FnG P w K mg base 1 T.f_reference_counts T.fd_reference_counts ["slots", "outside"] sp_reference_counts) (g_is_row : FnG P w K mg base 3 T.f_is_row T.fd_is_row ["value", "size"] sp_is_row) (g_is_between : FnG P w K mg base 2 T.f_is_between T.fd_is_between ["value", "least", "most"] sp_is_between) {B : Bs} {cdv : Value} {A : Around} {outer : List Env} {s : Shared} {H : Hp} {xe : XK} (hr : Rm 3 (A.deeper (envOfC "first_fault" (defScope s_first_fault) s.heap.objs.size T.f_first_fault cdv))) :
    MSs B (cxOf (L2.CX P w) P w K mg base ["slots", "outside", "size", "node", "found"] "first_fault" (defScope s_first_fault) T.f_first_fault cdv A outer s H xe).nox (defBody s_first_fault) b_first_fault :=
  (mss_cons (ms_set (i := 2) sc_first_fault.nd rfl (by first | exact Or.inl rfl | exact Or.inr rfl) (m_callB c_len (by rfl) T.n_len bb_len (ma_cons (mv 0) ma_nil)))
    (mss_cons (ms_for PassesOwn.never rfl (mi_rng1 (by rfl) T.n_range (mv 2)) (mg_name (i := 3) sc_first_fault.nd rfl (by first | exact Or.inl rfl | exact Or.inr rfl)) (mss_one (ms_if (mt_not (mt_truth (m_call g_is_row (hr.mono (by decide)) (by rfl) T.d_is_row.mgx T.d_is_row.kp T.d_is_row.bd (ma_cons (m_ix (mv 0) (mv 3)) (ma_cons (mv 2) ma_nil))))) (mss_one (ms_ret (m_tup (ma_cons m_str (ma_cons (mv 3) ma_nil))))) mss_nil)))
    (mss_cons (ms_for PassesOwn.never rfl (mi_rng1 (by rfl) T.n_range (mv 2)) (mg_name (i := 3) sc_first_fault.nd rfl (by first | exact Or.inl rfl | exact Or.inr rfl)) (mss_one (ms_if (mt_not (mt_truth (m_call g_is_between (hr.mono (by decide)) (by rfl) T.d_is_between.mgx T.d_is_between.kp T.d_is_between.bd (ma_cons (m_ix (mv 1) (mv 3)) (ma_cons m_int (ma_cons (m_gint (by rfl) T.g_MOST_OUTSIDE) ma_nil)))))) (mss_one (ms_ret (m_tup (ma_cons m_str (ma_cons (mv 3) ma_nil))))) mss_nil)))
    (mss_cons (ms_set (i := 4) sc_first_fault.nd rfl (by first | exact Or.inl rfl | exact Or.inr rfl) (m_call g_reference_counts (hr.mono (by decide)) (by rfl) T.d_reference_counts.mgx T.d_reference_counts.kp T.d_reference_counts.bd (ma_cons (mv 0) (ma_cons (mv 1) ma_nil))))
    (mss_cons (ms_for PassesOwn.never rfl (mi_rng1 (by rfl) T.n_range (mv 2)) (mg_name (i := 3) sc_first_fault.nd rfl (by first | exact Or.inl rfl | exact Or.inr rfl)) (mss_one (ms_if ((mw_and (mt_cmp o_isN (m_ix (mv 0) (mv 3)) m_non) (mw_and1 (mt_cmp o_gt (m_ix (mv 4) (mv 3)) m_int)))).mt (mss_one (ms_ret (m_tup (ma_cons m_str (ma_cons (mv 3) ma_nil))))) mss_nil)))
    (mss_cons (ms_for PassesOwn.never rfl (mi_rng1 (by rfl) T.n_range (mv 2)) (mg_name (i := 3) sc_first_fault.nd rfl (by first | exact Or.inl rfl | exact Or.inr rfl)) (mss_one (ms_if ((mw_and (mt_cmp o_notN (m_ix (mv 0) (mv 3)) m_non) (mw_and1 (mt_cmp (o_eq hr.hu) (m_ix (mv 4) (mv 3)) m_int)))).mt (mss_one (ms_ret (m_tup (ma_cons m_str (ma_cons (mv 3) ma_nil))))) mss_nil)))
    (mss_one (ms_ret m_non))))))))
def b_have_shape_3 : TSm := (mRet (mChain mEq mLe (mCB mLen (mCons (mVar 0) mNil)) (mCB mLen (mCons (mVar 1) mNil)) (mC (.int 40))))
def b_have_shape_2 : TSm := (mRet (mC (.bl false)))
def b_have_shape : TSm := (mSeq (mIfS (mOrT (mNotT (mTruT (mCB mIsi (mCons (mVar 0) (mCons (mTup (mCons (mC (.ty "list")) (mCons (mC (.ty "tuple")) mNil))) mNil))))) (mNotT (mTruT (mCB mIsi (mCons (mVar 1) (mCons (mTup (mCons (mC (.ty "list")) (mCons (mC (.ty "tuple")) mNil))) mNil)))))) b_have_shape_2 mNext) b_have_shape_3)
theorem walk_have_shape (T : Prg K mg)  {B : Bs} {cdv : Value} {A : Around} {outer : List Env} {s : Shared} {H : Hp} {xe : XK} (hr : Rm 0 (A.deeper (envOfC "have_shape" (defScope s_have_shape) s.heap.objs.size T.f_have_shape cdv))) :
    MSs B (cxOf (L2.CX P w) P w K mg base ["slots", "outside"] "have_shape" (defScope s_have_shape) T.f_have_shape cdv A outer s H xe).nox (defBody s_have_shape) b_have_shape :=
  (mss_cons (ms_if ((mw_or (mt_not (mt_truth (m_callB c_isi (by rfl) T.n_isinstance bb_isinstance (ma_cons (mv 0) (ma_cons (m_tup (ma_cons (m_type (by rfl) T.n_list bb_list) (ma_cons (m_type (by rfl) T.n_tuple bb_tuple) ma_nil))) ma_nil))))) (mw_or1 (mt_not (mt_truth (m_callB c_isi (by rfl) T.n_isinstance bb_isinstance (ma_cons (mv 1) (ma_cons (m_tup (ma_cons (m_type (by rfl) T.n_list bb_list) (ma_cons (m_type (by rfl) T.n_tuple bb_tuple) ma_nil))) ma_nil)))))))).mt (mss_one (ms_ret m_bl)) mss_nil)
    (mss_one (ms_ret (m_chain (o_eq hr.hu) o_le (m_callB c_len (by rfl) T.n_len bb_len (ma_cons (mv 0) ma_nil)) (m_callB c_len (by rfl) T.n_len bb_len (ma_cons (mv 1) ma_nil)) (m_gint (by rfl) T.g_MOST_NODES)))))
def b_make_heap_6 : TSm := (mRet (mTup (mCons (mCB mTupl (mCons (mLc false (mSeqI (mVar 0)) (.nm 3) mYes (mIf (mTest (mOp mIsN (mVar 3) (mC .non))) (mC .non) (mCB mTupl (mCons (mVar 3) mNil))) [3]) mNil)) (mCons (mCB mTupl (mCons (mVar 1) mNil)) mNil))))
def b_make_heap_5 : TSm := mNever
def b_make_heap_4 : TSm := (mSeq (mIfS (mTest (mOp mNotN (mVar 2) (mC .non))) b_make_heap_5 mNext) b_make_heap_6)
def b_make_heap_3 : TSm := (mSeq (mAsg (mCall sp_first_fault noX (mCons (mVar 0) (mCons (mVar 1) mNil))) (.nm 2)) b_make_heap_4)
def b_make_heap_2 : TSm := mNever
def b_make_heap : TSm := (mSeq (mIfS (mNotT (mTruT (mCall sp_have_shape noX (mCons (mVar 0) (mCons (mVar 1) mNil))))) b_make_heap_2 mNext) b_make_heap_3)
theorem walk_make_heap (T : Prg K mg) (g_first_fault : FnG P w K mg base 4 T.f_first_fault T.fd_first_fault ["slots", "outside"] sp_first_fault) (g_have_shape : FnG P w K mg base 1 T.f_have_shape T.fd_have_shape ["slots", "outside"] sp_have_shape) {B : Bs} {cdv : Value} {A : Around} {outer : List Env} {s : Shared} {H : Hp} {xe : XK} (hr : Rm 4 (A.deeper (envOfC "make_heap" (defScope s_make_heap) s.heap.objs.size T.f_make_heap cdv))) :
    MSs B (cxOf (L2.CX P w) P w K mg base ["slots", "outside", "fault", "row"] "make_heap" (defScope s_make_heap) T.f_make_heap cdv A outer s H xe).nox (defBody s_make_heap) b_make_heap :=
  (mss_cons (ms_if (mt_not (mt_truth (m_call g_have_shape (hr.mono (by decide)) (by rfl) T.d_have_shape.mgx T.d_have_shape.kp T.d_have_shape.bd (ma_cons (mv 0) (ma_cons (mv 1) ma_nil))))) (mss_one ms_never) mss_nil)
    (mss_cons (ms_set (i := 2) sc_make_heap.nd rfl (by first | exact Or.inl rfl | exact Or.inr rfl) (m_call g_first_fault (hr.mono (by decide)) (by rfl) T.d_first_fault.mgx T.d_first_fault.kp T.d_first_fault.bd (ma_cons (mv 0) (ma_cons (mv 1) ma_nil))))
    (mss_cons (ms_if (mt_cmp o_notN (mv 2) m_non) (mss_one ms_never) mss_nil)
    (mss_one (ms_ret (m_tup (ma_cons (m_callTy c_tuple (by rfl) T.n_tuple bb_tuple (ma_cons (m_lc false rfl sc_make_heap.nd (mi_seq (mv 0)) (blkOk_by (own := [("row", 3)]) (by kernel_rfl)) (by decide) (fun _ _ _ _ _ => (mg_name (i := 3) sc_make_heap.nd rfl (by first | exact Or.inl rfl | exact Or.inr rfl))) (fun _ _ _ _ _ => mts_nil) (fun _ _ _ _ _ => (m_ifE (mt_cmp o_isN (mv 3) m_non) m_non (m_callTy c_tuple (by rfl) T.n_tuple bb_tuple (ma_cons (mv 3) ma_nil))))) ma_nil)) (ma_cons (m_callTy c_tuple (by rfl) T.n_tuple bb_tuple (ma_cons (mv 1) ma_nil)) ma_nil))))))))
def b_require_word_2 : TSm := mNever
def b_require_word : TSm := (mIfS (mNotT (mTruT (mVar 0))) b_require_word_2 mNext)
theorem walk_require_word (T : Prg K mg)  {B : Bs} {cdv : Value} {A : Around} {outer : List Env} {s : Shared} {H : Hp} {xe : XK} (hr : Rm 0 (A.deeper (envOfC "require_word" (defScope s_require_word) s.heap.objs.size T.f_require_word cdv))) :
    MSs B (cxOf (L2.CX P w) P w K mg base ["is_valid", "line", "word"] "require_word" (defScope s_require_word) T.f_require_word cdv A outer s H xe).nox (defBody s_require_word) b_require_word :=
  (mss_one (ms_if (mt_not (mt_truth (mv 0))) (mss_one ms_never) mss_nil))
def b_number_in_5 : TSm := (mRet (mCB mIntS (mCons (mVar 0) mNil)))
def b_number_in_4 : TSm := (mRet (mC .non))
def b_number_in_3 : TSm := (mSeq (mIfS (mOrT (mAndT (mTest (mOp mEq (mOp mIx (mVar 0) (mC (.int 0))) (mC (.str "0")))) (mTest (mOp mNe (mVar 0) (mC (.str "0"))))) (mTest (mOp mGe (mCB mIntS (mCons (mVar 0) mNil)) (mVar 1)))) b_number_in_4 mNext) b_number_in_5)
def b_number_in_2 : TSm := (mRet (mC .non))
def b_number_in : TSm := (mSeq (mIfS (mOrT (mNotT (mTest (mChain mLe mLe (mC (.int 1)) (mCB mLen (mCons (mVar 0) mNil)) (mC (.int 9))))) (mNotT (mTruT (mCB mAll (mCons (mLc false (mSeqI (mVar 0)) (.nm 2) mYes (mOp (mInS false) (mVar 2) (mC (.str "0123456789"))) [2]) mNil))))) b_number_in_2 mNext) b_number_in_3)
theorem walk_number_in (T : Prg K mg)  {B : Bs} {cdv : Value} {A : Around} {outer : List Env} {s : Shared} {H : Hp} {xe : XK} (hr : Rm 0 (A.deeper (envOfC "number_in" (defScope s_number_in) s.heap.objs.size T.f_number_in cdv))) :
    MSs B (cxOf (L2.CX P w) P w K mg base ["word", "bound", "sign"] "number_in" (defScope s_number_in) T.f_number_in cdv A outer s H xe).nox (defBody s_number_in) b_number_in :=
  (mss_cons (ms_if ((mw_or (mt_not (mt_chain o_le o_le m_int (m_callB c_len (by rfl) T.n_len bb_len (ma_cons (mv 0) ma_nil)) (m_gint (by rfl) T.g_MOST_DIGITS))) (mw_or1 (mt_not (mt_truth (m_callB (c_all rfl) (by rfl) T.n_all bb_all (ma_cons (m_lc false rfl sc_number_in.nd (mi_seq (mv 0)) (blkOk_by (own := [("sign", 2)]) (by kernel_rfl)) (by decide) (fun _ _ _ _ _ => (mg_name (i := 2) sc_number_in.nd rfl (by first | exact Or.inl rfl | exact Or.inr rfl))) (fun _ _ _ _ _ => mts_nil) (fun _ _ _ _ _ => (m_cmp o_inS (mv 2) (m_gstr (by rfl) T.g_DIGITS)))) ma_nil))))))).mt (mss_one (ms_ret m_non)) mss_nil)
    (mss_cons (ms_if ((mw_or ((mw_and (mt_cmp (o_eq hr.hu) (m_ix (mv 0) m_int) m_str) (mw_and1 (mt_cmp (o_ne hr.hu) (mv 0) m_str)))).mt (mw_or1 (mt_cmp o_ge (m_callTy c_intS (by rfl) T.n_int bb_int (ma_cons (mv 0) ma_nil)) (mv 1))))).mt (mss_one (ms_ret m_non)) mss_nil)
    (mss_one (ms_ret (m_callTy c_intS (by rfl) T.n_int bb_int (ma_cons (mv 0) ma_nil))))))
def b_parse_slots_6 : TSm := (mRet (mVar 3))
def b_parse_slots_5 : TSm := (mDrop (mBM "list" mAppend (mVar 3) (mCons (mVar 6) mNil)))
def b_parse_slots_4 : TSm := (mSeq (mDrop (mCall sp_require_word noX (mCons (mAnd (mOp mLe (mVar 4) (mC (.int 40))) (mOr (mOp mEq (mVar 5) (mC (.str "-"))) (mOp mNotN (mVar 6) (mC .non)))) (mCons (mVar 1) (mCons (mVar 4) mNil))))) b_parse_slots_5)
def b_parse_slots_3 : TSm := (mSeq (mAsg (mCall sp_number_in noX (mCons (mVar 5) (mCons (mVar 2) mNil))) (.nm 6)) b_parse_slots_4)
def b_parse_slots_2 : TSm := (mSeq (mFor (mEnumK (mVar 0) (mC (.int 1))) (.tp [(.nm 4), (.nm 5)]) b_parse_slots_3) b_parse_slots_6)
def b_parse_slots : TSm := (mSeq (mAsg (mLst true mNil) (.nm 3)) b_parse_slots_2)
theorem walk_parse_slots (T : Prg K mg) (g_number_in : FnG P w K mg base 1 T.f_number_in T.fd_number_in ["word", "bound"] sp_number_in) (g_require_word : FnG P w K mg base 1 T.f_require_word T.fd_require_word ["is_valid", "line", "word"] sp_require_word) {B : Bs} {cdv : Value} {A : Around} {outer : List Env} {s : Shared} {H : Hp} {xe : XK} (hr : Rm 1 (A.deeper (envOfC "parse_slots" (defScope s_parse_slots) s.heap.objs.size T.f_parse_slots cdv))) :
    MSs B (cxOf (L2.CX P w) P w K mg base ["words", "line", "size", "found", "index", "word", "held"] "parse_slots" (defScope s_parse_slots) T.f_parse_slots cdv A outer s H xe).nox (defBody s_parse_slots) b_parse_slots :=
  (mss_cons (ms_set (i := 3) sc_parse_slots.nd rfl (by first | exact Or.inl rfl | exact Or.inr rfl) (m_lst true ma_nil))
    (mss_cons (ms_for PassesOwn.never rfl (mi_enumK (by rfl) T.n_enumerate (mv 0) m_int) (mg_tup rfl (mgs_cons (mg_name (i := 4) sc_parse_slots.nd rfl (by first | exact Or.inl rfl | exact Or.inr rfl)) (mgs_cons (mg_name (i := 5) sc_parse_slots.nd rfl (by first | exact Or.inl rfl | exact Or.inr rfl)) mgs_nil))) (mss_cons (ms_set (i := 6) sc_parse_slots.nd rfl (by first | exact Or.inl rfl | exact Or.inr rfl) (m_call g_number_in (hr.mono (by decide)) (by rfl) T.d_number_in.mgx T.d_number_in.kp T.d_number_in.bd (ma_cons (mv 5) (ma_cons (mv 2) ma_nil))))
    (mss_cons (ms_expr (m_call g_require_word (hr.mono (by decide)) (by rfl) T.d_require_word.mgx T.d_require_word.kp T.d_require_word.bd (ma_cons (m_andE (m_cmp o_le (mv 4) (m_gint (by rfl) T.g_MOST_SLOTS)) (m_one (m_orE (m_cmp (o_eq hr.hu) (mv 5) m_str) (m_one (m_cmp o_notN (mv 6) m_non))))) (ma_cons (mv 1) (ma_cons (mv 4) ma_nil)))))
    (mss_one (ms_expr (m_bm PySem.F.plainAttrs_list PySem.F.slot_list_append PySem.F.type_list_append mm_append (mv 3) (ma_cons (mv 6) ma_nil)))))))
    (mss_one (ms_ret (mv 3)))))
def b_parse_heap_13 : TSm := (mRet (mCall sp_make_heap noX (mCons (mVar 2) (mCons (mVar 3) mNil))))
def b_parse_heap_12 : TSm := b_parse_heap_13
def b_parse_heap_11 : TSm := (mDrop (mBM "list" mAppend (mVar 3) (mCons (mIf (mTruT (mVar 8)) (mCB mIntS (mCons (mVar 6) mNil)) (mC (.int 0))) mNil)))
def b_parse_heap_10 : TSm := (mSeq (mDrop (mBM "list" mAppend (mVar 2) (mCons (mIf (mTruT (mVar 8)) (mCall sp_parse_slots noX (mCons (mVar 7) (mCons (mVar 4) (mCons (mCB mLen (mCons (mVar 1) mNil)) mNil)))) (mC .non)) mNil))) b_parse_heap_11)
def b_parse_heap_9 : TSm := (mDrop (mCall sp_require_word noX (mCons (mOp mEq (mVar 7) (mLst false mNil)) (mCons (mVar 4) (mCons (mC (.int 1)) mNil)))))
def b_parse_heap_8 : TSm := (mSeq (mIfS (mTest (mOp mEq (mVar 6) (mC (.str "free")))) b_parse_heap_9 mNext) b_parse_heap_10)
def b_parse_heap_7 : TSm := (mSeq (mDrop (mCall sp_require_word noX (mCons (mAnd (mOp mLt (mVar 4) (mC (.int 40))) (mOr (mOp mEq (mVar 6) (mC (.str "free"))) (mVar 8))) (mCons (mVar 4) (mCons (mC (.int 0)) mNil))))) b_parse_heap_8)
def b_parse_heap_6 : TSm := (mSeq (mAsg (mAnd (mOp mEq (mCB mLen (mCons (mVar 6) mNil)) (mC (.int 1))) (mOp (mInS false) (mVar 6) (mC (.str "0123456789")))) (.nm 8)) b_parse_heap_7)
def b_parse_heap_5 : TSm := (mSeq (mStar 6 7 false (mBM "str" (mSplit false) (mVar 5) (mCons (mC (.str " ")) mNil))) b_parse_heap_6)
def b_parse_heap_4 : TSm := (mSeq (mFor (mEnum (mVar 1)) (.tp [(.nm 4), (.nm 5)]) b_parse_heap_5) b_parse_heap_12)
def b_parse_heap_3 : TSm := (mSeq (mAsg (mLst true mNil) (.nm 3)) b_parse_heap_4)
def b_parse_heap_2 : TSm := (mSeq (mAsg (mLst true mNil) (.nm 2)) b_parse_heap_3)
def b_parse_heap : TSm := (mSeq (mAsg (mIf (mTest (mOp mNe (mVar 0) (mC (.str "")))) (mBM "str" (mSplit false) (mVar 0) (mCons (mC (.str "\n")) mNil)) (mLst false mNil)) (.nm 1)) b_parse_heap_2)
theorem walk_parse_heap (T : Prg K mg) (g_require_word : FnG P w K mg base 1 T.f_require_word T.fd_require_word ["is_valid", "line", "word"] sp_require_word) (g_make_heap : FnG P w K mg base 5 T.f_make_heap T.fd_make_heap ["slots", "outside"] sp_make_heap) (g_parse_slots : FnG P w K mg base 2 T.f_parse_slots T.fd_parse_slots ["words", "line", "size"] sp_parse_slots) {B : Bs} {cdv : Value} {A : Around} {outer : List Env} {s : Shared} {H : Hp} {xe : XK} (hr : Rm 5 (A.deeper (envOfC "parse_heap" (defScope s_parse_heap) s.heap.objs.size T.f_parse_heap cdv))) :
    MSs B (cxOf (L2.CX P w) P w K mg base ["text", "lines", "slots", "outside", "line", "content", "first", "rest", "is_digit"] "parse_heap" (defScope s_parse_heap) T.f_parse_heap cdv A outer s H xe).nox (defBody s_parse_heap) b_parse_heap :=
  (mss_cons (ms_set (i := 1) sc_parse_heap.nd rfl (by first | exact Or.inl rfl | exact Or.inr rfl) (m_ifE (mt_cmp (o_ne hr.hu) (mv 0) m_str) (m_bm PySem.F.plainAttrs_str PySem.F.slot_str_split PySem.F.type_str_split (mm_split false) (mv 0) (ma_cons m_str ma_nil)) (m_lst false ma_nil)))
    (mss_cons (ms_set (i := 2) sc_parse_heap.nd rfl (by first | exact Or.inl rfl | exact Or.inr rfl) (m_lst true ma_nil))
    (mss_cons (ms_set (i := 3) sc_parse_heap.nd rfl (by first | exact Or.inl rfl | exact Or.inr rfl) (m_lst true ma_nil))
    (mss_cons (ms_for PassesOwn.never rfl (mi_enum (by rfl) T.n_enumerate (mv 1)) (mg_tup rfl (mgs_cons (mg_name (i := 4) sc_parse_heap.nd rfl (by first | exact Or.inl rfl | exact Or.inr rfl)) (mgs_cons (mg_name (i := 5) sc_parse_heap.nd rfl (by first | exact Or.inl rfl | exact Or.inr rfl)) mgs_nil))) (mss_cons (ms_star (i := 6) (j := 7) false rfl sc_parse_heap.nd rfl rfl (by first | exact Or.inl rfl | exact Or.inr rfl) (by first | exact Or.inl rfl | exact Or.inr rfl) (m_bm PySem.F.plainAttrs_str PySem.F.slot_str_split PySem.F.type_str_split (mm_split false) (mv 5) (ma_cons m_str ma_nil)))
    (mss_cons (ms_set (i := 8) sc_parse_heap.nd rfl (by first | exact Or.inl rfl | exact Or.inr rfl) (m_andE (m_cmp (o_eq hr.hu) (m_callB c_len (by rfl) T.n_len bb_len (ma_cons (mv 6) ma_nil)) m_int) (m_one (m_cmp o_inS (mv 6) (m_gstr (by rfl) T.g_DIGITS)))))
    (mss_cons (ms_expr (m_call g_require_word (hr.mono (by decide)) (by rfl) T.d_require_word.mgx T.d_require_word.kp T.d_require_word.bd (ma_cons (m_andE (m_cmp o_lt (mv 4) (m_gint (by rfl) T.g_MOST_NODES)) (m_one (m_orE (m_cmp (o_eq hr.hu) (mv 6) m_str) (m_one (mv 8))))) (ma_cons (mv 4) (ma_cons m_int ma_nil)))))
    (mss_cons (ms_if (mt_cmp (o_eq hr.hu) (mv 6) m_str) (mss_one (ms_expr (m_call g_require_word (hr.mono (by decide)) (by rfl) T.d_require_word.mgx T.d_require_word.kp T.d_require_word.bd (ma_cons (m_cmp (o_eq hr.hu) (mv 7) (m_lst false ma_nil)) (ma_cons (mv 4) (ma_cons m_int ma_nil)))))) mss_nil)
    (mss_cons (ms_expr (m_bm PySem.F.plainAttrs_list PySem.F.slot_list_append PySem.F.type_list_append mm_append (mv 2) (ma_cons (m_ifE (mt_truth (mv 8)) (m_call g_parse_slots (hr.mono (by decide)) (by rfl) T.d_parse_slots.mgx T.d_parse_slots.kp T.d_parse_slots.bd (ma_cons (mv 7) (ma_cons (mv 4) (ma_cons (m_callB c_len (by rfl) T.n_len bb_len (ma_cons (mv 1) ma_nil)) ma_nil)))) m_non) ma_nil)))
    (mss_one (ms_expr (m_bm PySem.F.plainAttrs_list PySem.F.slot_list_append PySem.F.type_list_append mm_append (mv 3) (ma_cons (m_ifE (mt_truth (mv 8)) (m_callTy c_intS (by rfl) T.n_int bb_int (ma_cons (mv 6) ma_nil)) m_int) ma_nil))))))))))
    (mss_one (ms_try0 (mss_one (ms_ret (m_call g_make_heap (hr.mono (by decide)) (by rfl) T.d_make_heap.mgx T.d_make_heap.kp T.d_make_heap.bd (ma_cons (mv 2) (ma_cons (mv 3) ma_nil)))))))))))
def b_pen : TSm := (mRet (mLst true (mCons (mCB (mList false) (mCons (mSl false (mVar 0) mNoPart (mPart (mC (.int 63)))) mNil)) (mCons (mC (.int 0)) (mCons (mC (.int 0)) mNil)))))
theorem walk_pen (T : Prg K mg)  {B : Bs} {cdv : Value} {A : Around} {outer : List Env} {s : Shared} {H : Hp} {xe : XK} (hr : Rm 0 (A.deeper (envOfC "_law_pen" (defScope s_pen) s.heap.objs.size T.f_pen cdv))) :
    MSs B (cxOf (L2.CX P w) P w K mg base ["_law_script"] "_law_pen" (defScope s_pen) T.f_pen cdv A outer s H xe).nox (defBody s_pen) b_pen :=
  (mss_one (ms_ret (m_lst true (ma_cons (m_callTy (c_list false) (by rfl) T.n_list bb_list (ma_cons (m_sl false (mv 0) mo_none (mo_some m_int)) ma_nil)) (ma_cons m_int (ma_cons m_int ma_nil))))))
def b_draw_16 : TSm := (mRet (mOp mMod (mOp mFdv (mVar 6) (mC (.int 64))) (mVar 1)))
def b_draw_15 : TSm := (mSeq (mAsg (mOp mMod (mOp mPow (mOp (mAdd false) (mOp (mMul false) (mVar 6) (mOp (mAdd false) (mOp (mMul false) (mC (.int 2)) (mVar 3)) (mC (.int 17)))) (mC (.int 90011))) (mC (.int 3))) (mC (.int 2147483579))) (.nm 6)) b_draw_16)
def b_draw_14 : TSm := (mSeq (mAsg (mOp mMod (mOp mPow (mOp (mAdd false) (mOp (mAdd false) (mOp (mAdd false) (mOp mMod (mVar 4) (mC (.int 2147483587))) (mOp (mMul false) (mC (.int 40009)) (mVar 3))) (mOp (mMul false) (mOp (mMul false) (mC (.int 6007)) (mVar 3)) (mVar 3))) (mC (.int 13))) (mC (.int 5))) (mC (.int 2147483647))) (.nm 6)) b_draw_15)
def b_draw_13 : TSm := (mRet (mOp mMod (mVar 5) (mVar 1)))
def b_draw_12 : TSm := (mSeq (mSetI (mOp mFdv (mVar 5) (mVar 1)) (mVar 0) (mC (.int 2))) b_draw_13)
def b_draw_11 : TSm := (mSeq (mAsg (mOp (mAdd false) (mOp (mMul false) (mC (.int 2)) (mOp mSub (mCB mAbs (mCons (mVar 4) mNil)) (mOp mPow (mC (.int 10)) (mC (.int 18))))) (mCB mInt (mCons (mOp mLt (mVar 4) (mC (.int 0))) mNil))) (.nm 5)) b_draw_12)
def b_draw_10 : TSm := (mSeq (mIfS (mAndT (mTest (mOp mLt (mVar 3) (mCB mLen (mCons (mOp mIx (mVar 0) (mC (.int 0))) mNil)))) (mTest (mOp mGe (mCB mAbs (mCons (mVar 4) mNil)) (mOp mPow (mC (.int 10)) (mC (.int 18)))))) b_draw_11 mNext) b_draw_14)
def b_draw_9 : TSm := (mAsg (mOp mIx (mOp mIx (mVar 0) (mC (.int 0))) (mOp mMod (mVar 3) (mCB mLen (mCons (mOp mIx (mVar 0) (mC (.int 0))) mNil)))) (.nm 4))
def b_draw_8 : TSm := (mSeq (mIfS (mTest (mOp mNe (mOp mIx (mVar 0) (mC (.int 0))) (mLst false mNil))) b_draw_9 mNext) b_draw_10)
def b_draw_7 : TSm := (mSeq (mAsg (mOp (mAdd false) (mOp (mMul false) (mC (.int 53003)) (mVar 3)) (mC (.int 61))) (.nm 4)) b_draw_8)
def b_draw_6 : TSm := (mSeq (mSetI (mOp (mAdd false) (mVar 3) (mC (.int 1))) (mVar 0) (mC (.int 1))) b_draw_7)
def b_draw_5 : TSm := (mSeq (mAsg (mOp mIx (mVar 0) (mC (.int 1))) (.nm 3)) b_draw_6)
def b_draw_4 : TSm := (mRet (mVar 2))
def b_draw_3 : TSm := (mSeq (mSetI (mOp mFdv (mOp mIx (mVar 0) (mC (.int 2))) (mVar 1)) (mVar 0) (mC (.int 2))) b_draw_4)
def b_draw_2 : TSm := (mSeq (mAsg (mOp mMod (mOp mIx (mVar 0) (mC (.int 2))) (mVar 1)) (.nm 2)) b_draw_3)
def b_draw : TSm := (mSeq (mIfS (mTest (mOp mGt (mOp mIx (mVar 0) (mC (.int 2))) (mC (.int 0)))) b_draw_2 mNext) b_draw_5)
theorem walk_draw (T : Prg K mg)  {B : Bs} {cdv : Value} {A : Around} {outer : List Env} {s : Shared} {H : Hp} {xe : XK} (hr : Rm 0 (A.deeper (envOfC "_law_draw" (defScope s_draw) s.heap.objs.size T.f_draw cdv))) :
    MSs B (cxOf (L2.CX P w) P w K mg base ["_law_pen_here", "_law_bound", "_law_digit", "_law_at", "_law_cell", "_law_great", "_law_mixed"] "_law_draw" (defScope s_draw) T.f_draw cdv A outer s H xe).nox (defBody s_draw) b_draw :=
  (mss_cons (ms_if (mt_cmp o_gt (m_ix (mv 0) m_int) m_int) (mss_cons (ms_set (i := 2) sc_draw.nd rfl (by first | exact Or.inl rfl | exact Or.inr rfl) (m_op o_mod (m_ix (mv 0) m_int) (mv 1)))
    (mss_cons (ms_setI (m_op o_fdv (m_ix (mv 0) m_int) (mv 1)) (mv 0) m_int)
    (mss_one (ms_ret (mv 2))))) mss_nil)
    (mss_cons (ms_set (i := 3) sc_draw.nd rfl (by first | exact Or.inl rfl | exact Or.inr rfl) (m_ix (mv 0) m_int))
    (mss_cons (ms_setI (m_op (o_add (own := false)) (mv 3) m_int) (mv 0) m_int)
    (mss_cons (ms_set (i := 4) sc_draw.nd rfl (by first | exact Or.inl rfl | exact Or.inr rfl) (m_op (o_add (own := false)) (m_op (o_mul (own := false)) m_int (mv 3)) m_int))
    (mss_cons (ms_if (mt_cmp (o_ne hr.hu) (m_ix (mv 0) m_int) (m_lst false ma_nil)) (mss_one (ms_set (i := 4) sc_draw.nd rfl (by first | exact Or.inl rfl | exact Or.inr rfl) (m_ix (m_ix (mv 0) m_int) (m_op o_mod (mv 3) (m_callB c_len (by rfl) T.n_len bb_len (ma_cons (m_ix (mv 0) m_int) ma_nil)))))) mss_nil)
    (mss_cons (ms_if ((mw_and (mt_cmp o_lt (mv 3) (m_callB c_len (by rfl) T.n_len bb_len (ma_cons (m_ix (mv 0) m_int) ma_nil))) (mw_and1 (mt_cmp o_ge (m_callB c_abs (by rfl) T.n_abs bb_abs (ma_cons (mv 4) ma_nil)) (m_op o_pow m_int m_int))))).mt (mss_cons (ms_set (i := 5) sc_draw.nd rfl (by first | exact Or.inl rfl | exact Or.inr rfl) (m_op (o_add (own := false)) (m_op (o_mul (own := false)) m_int (m_op o_sub (m_callB c_abs (by rfl) T.n_abs bb_abs (ma_cons (mv 4) ma_nil)) (m_op o_pow m_int m_int))) (m_callTy c_int (by rfl) T.n_int bb_int (ma_cons (m_cmp o_lt (mv 4) m_int) ma_nil))))
    (mss_cons (ms_setI (m_op o_fdv (mv 5) (mv 1)) (mv 0) m_int)
    (mss_one (ms_ret (m_op o_mod (mv 5) (mv 1)))))) mss_nil)
    (mss_cons (ms_set (i := 6) sc_draw.nd rfl (by first | exact Or.inl rfl | exact Or.inr rfl) (m_op o_mod (m_op o_pow (m_op (o_add (own := false)) (m_op (o_add (own := false)) (m_op (o_add (own := false)) (m_op o_mod (mv 4) m_int) (m_op (o_mul (own := false)) m_int (mv 3))) (m_op (o_mul (own := false)) (m_op (o_mul (own := false)) m_int (mv 3)) (mv 3))) m_int) m_int) m_int))
    (mss_cons (ms_set (i := 6) sc_draw.nd rfl (by first | exact Or.inl rfl | exact Or.inr rfl) (m_op o_mod (m_op o_pow (m_op (o_add (own := false)) (m_op (o_mul (own := false)) (mv 6) (m_op (o_add (own := false)) (m_op (o_mul (own := false)) m_int (mv 3)) m_int)) m_int) m_int) m_int))
    (mss_one (ms_ret (m_op o_mod (m_op o_fdv (mv 6) m_int) (mv 1))))))))))))
def b_order_2 : TSm := (mRet (mLc false (mRng1 (mVar 1)) (.nm 3) mYes (mBM "list" mPopAt (mVar 2) (mCons (mCall sp_draw noX (mCons (mVar 0) (mCons (mCB mLen (mCons (mVar 2) mNil)) mNil))) mNil)) [3]))
def b_order : TSm := (mSeq (mAsg (mLstRg1 true (mVar 1)) (.nm 2)) b_order_2)
theorem walk_order (T : Prg K mg) (g_draw : FnG P w K mg base 1 T.f_draw T.fd_draw ["_law_pen_here", "_law_bound"] sp_draw) {B : Bs} {cdv : Value} {A : Around} {outer : List Env} {s : Shared} {H : Hp} {xe : XK} (hr : Rm 1 (A.deeper (envOfC "_law_order" (defScope s_order) s.heap.objs.size T.f_order cdv))) :
    MSs B (cxOf (L2.CX P w) P w K mg base ["_law_pen_here", "_law_size_here", "_law_left", "_law_k"] "_law_order" (defScope s_order) T.f_order cdv A outer s H xe).nox (defBody s_order) b_order :=
  (mss_cons (ms_set (i := 2) sc_order.nd rfl (by first | exact Or.inl rfl | exact Or.inr rfl) (m_listRg1 true rfl (by rfl) T.n_list (by rfl) T.n_range (mv 1)))
    (mss_one (ms_ret (m_lc false rfl sc_order.nd (mi_rng1 (by rfl) T.n_range (mv 1)) (blkOk_by (own := [("_law_k", 3)]) (by kernel_rfl)) (by decide) (fun _ _ _ _ _ => (mg_name (i := 3) sc_order.nd rfl (by first | exact Or.inl rfl | exact Or.inr rfl))) (fun _ _ _ _ _ => mts_nil) (fun _ _ _ _ _ => (m_bm PySem.F.plainAttrs_list PySem.F.slot_list_pop PySem.F.type_list_pop mm_popAt (mv 2) (ma_cons (m_call g_draw (hr.mono (by decide)) (by rfl) T.d_draw.mgx T.d_draw.kp T.d_draw.bd (ma_cons (mv 0) (ma_cons (m_callB c_len (by rfl) T.n_len bb_len (ma_cons (mv 2) ma_nil)) ma_nil))) ma_nil)))))))
def b_size_2 : TSm := (mRet (mCB mMin2 (mCons (mVar 1) (mCons (mOp mIx (mLst false (mCons (mOp (mAdd false) (mC (.int 2)) (mCall sp_draw noX (mCons (mVar 0) (mCons (mC (.int 3)) mNil)))) (mCons (mOp (mAdd false) (mC (.int 3)) (mCall sp_draw noX (mCons (mVar 0) (mCons (mC (.int 5)) mNil)))) (mCons (mOp (mAdd false) (mC (.int 1)) (mCall sp_draw noX (mCons (mVar 0) (mCons (mVar 1) mNil)))) (mCons (mVar 1) mNil))))) (mVar 2)) mNil))))
def b_size : TSm := (mSeq (mAsg (mCall sp_draw noX (mCons (mVar 0) (mCons (mC (.int 4)) mNil))) (.nm 2)) b_size_2)
theorem walk_size (T : Prg K mg) (g_draw : FnG P w K mg base 1 T.f_draw T.fd_draw ["_law_pen_here", "_law_bound"] sp_draw) {B : Bs} {cdv : Value} {A : Around} {outer : List Env} {s : Shared} {H : Hp} {xe : XK} (hr : Rm 1 (A.deeper (envOfC "_law_size" (defScope s_size) s.heap.objs.size T.f_size cdv))) :
    MSs B (cxOf (L2.CX P w) P w K mg base ["_law_pen_here", "_law_most", "_law_way"] "_law_size" (defScope s_size) T.f_size cdv A outer s H xe).nox (defBody s_size) b_size :=
  (mss_cons (ms_set (i := 2) sc_size.nd rfl (by first | exact Or.inl rfl | exact Or.inr rfl) (m_call g_draw (hr.mono (by decide)) (by rfl) T.d_draw.mgx T.d_draw.kp T.d_draw.bd (ma_cons (mv 0) (ma_cons m_int ma_nil))))
    (mss_one (ms_ret (m_callB (c_min2 rfl) (by rfl) T.n_min bb_min (ma_cons (mv 1) (ma_cons (m_ix (m_lst false (ma_cons (m_op (o_add (own := false)) m_int (m_call g_draw (hr.mono (by decide)) (by rfl) T.d_draw.mgx T.d_draw.kp T.d_draw.bd (ma_cons (mv 0) (ma_cons m_int ma_nil)))) (ma_cons (m_op (o_add (own := false)) m_int (m_call g_draw (hr.mono (by decide)) (by rfl) T.d_draw.mgx T.d_draw.kp T.d_draw.bd (ma_cons (mv 0) (ma_cons m_int ma_nil)))) (ma_cons (m_op (o_add (own := false)) m_int (m_call g_draw (hr.mono (by decide)) (by rfl) T.d_draw.mgx T.d_draw.kp T.d_draw.bd (ma_cons (mv 0) (ma_cons (mv 1) ma_nil)))) (ma_cons (mv 1) ma_nil))))) (mv 2)) ma_nil))))))
def b_links_19 : TSm := (mRet (mVar 4))
def b_links_18 : TSm := (mDrop (mBM "list" mInsert (mVar 8) (mCons (mCall sp_draw noX (mCons (mVar 0) (mCons (mOp (mAdd false) (mCB mLen (mCons (mVar 8) mNil)) (mC (.int 1))) mNil))) (mCons (mC .non) mNil))))
def b_links_17 : TSm := (mIfS (mTest (mOp mEq (mCall sp_draw noX (mCons (mVar 0) (mCons (mC (.int 5)) mNil))) (mC (.int 0)))) b_links_18 mNext)
def b_links_16 : TSm := (mSeq (mFor (mSeqI (mVar 4)) (.nm 8) b_links_17) b_links_19)
def b_links_15 : TSm := (mDrop (mBM "list" mInsert (mVar 8) (mCons (mCall sp_draw noX (mCons (mVar 0) (mCons (mOp (mAdd false) (mCB mLen (mCons (mVar 8) mNil)) (mC (.int 1))) mNil))) (mCons (mVar 10) mNil))))
def b_links_14 : TSm := (mIfS (mAndT (mTest (mOp mLt (mCB mLen (mCons (mVar 8) mNil)) (mC (.int 38)))) (mOrT (mTest (mOp mNe (mVar 9) (mVar 10))) (mTest (mOp mEq (mVar 2) (mC (.int 3)))))) b_links_15 mNext)
def b_links_13 : TSm := (mSeq (mAsg (mOp mIx (mVar 4) (mVar 9)) (.nm 8)) b_links_14)
def b_links_12 : TSm := (mPar 9 10 (mCB mMin2 (mCons (mVar 9) (mCons (mVar 10) mNil))) (mCB mMin2 (mCons (mOp mSub (mVar 1) (mC (.int 1))) (mCons (mOp (mAdd false) (mCB mMax2 (mCons (mVar 9) (mCons (mVar 10) mNil))) (mCB mInt (mCons (mOp mEq (mVar 9) (mVar 10)) mNil))) mNil))))
def b_links_11 : TSm := (mSeq (mIfS (mAndT (mTest (mOp mLe (mVar 10) (mVar 9))) (mOrT (mTest (mOp mLt (mVar 2) (mC (.int 3)))) (mTest (mOp mGt (mCall sp_draw noX (mCons (mVar 0) (mCons (mC (.int 4)) mNil))) (mC (.int 0)))))) b_links_12 mNext) b_links_13)
def b_links_10 : TSm := (mSeq (mAsg (mCall sp_draw noX (mCons (mVar 0) (mCons (mVar 1) mNil))) (.nm 10)) b_links_11)
def b_links_9 : TSm := (mSeq (mAsg (mCall sp_draw noX (mCons (mVar 0) (mCons (mVar 1) mNil))) (.nm 9)) b_links_10)
def b_links_8 : TSm := (mSeq (mFor (mRng1 (mOp mIx (mLst false (mCons (mC (.int 0)) (mCons (mCall sp_draw noX (mCons (mVar 0) (mCons (mC (.int 4)) mNil))) (mCons (mVar 1) (mCons (mOp (mMul false) (mC (.int 2)) (mVar 1)) mNil))))) (mVar 2))) (.nm 5) b_links_9) b_links_16)
def b_links_7 : TSm := (mDrop (mBM "list" mInsert (mVar 8) (mCons (mCall sp_draw noX (mCons (mVar 0) (mCons (mOp (mAdd false) (mCB mLen (mCons (mVar 8) mNil)) (mC (.int 1))) mNil))) (mCons (mVar 6) mNil))))
def b_links_6 : TSm := (mSeq (mAsg (mOp mIx (mVar 4) (mVar 7)) (.nm 8)) b_links_7)
def b_links_5 : TSm := (mSeq (mAsg (mOp mIx (mLst false (mCons (mCall sp_draw noX (mCons (mVar 0) (mCons (mVar 6) mNil))) (mCons (mOp mSub (mVar 6) (mC (.int 1))) (mCons (mCB mMax2 (mCons (mC (.int 0)) (mCons (mOp mSub (mOp mSub (mVar 6) (mC (.int 1))) (mCall sp_draw noX (mCons (mVar 0) (mCons (mC (.int 3)) mNil)))) mNil))) mNil)))) (mVar 3)) (.nm 7)) b_links_6)
def b_links_4 : TSm := (mSeq (mFor (mRng2 (mC (.int 1)) (mVar 1)) (.nm 6) b_links_5) b_links_8)
def b_links_3 : TSm := (mSeq (mAsg (mLc false (mRng1 (mVar 1)) (.nm 5) mYes (mLst true mNil) [5]) (.nm 4)) b_links_4)
def b_links_2 : TSm := (mSeq (mAsg (mCall sp_draw noX (mCons (mVar 0) (mCons (mC (.int 3)) mNil))) (.nm 3)) b_links_3)
def b_links : TSm := (mSeq (mAsg (mCall sp_draw noX (mCons (mVar 0) (mCons (mC (.int 4)) mNil))) (.nm 2)) b_links_2)
theorem walk_links (T : Prg K mg) (g_draw : FnG P w K mg base 1 T.f_draw T.fd_draw ["_law_pen_here", "_law_bound"] sp_draw) {B : Bs} {cdv : Value} {A : Around} {outer : List Env} {s : Shared} {H : Hp} {xe : XK} (hr : Rm 1 (A.deeper (envOfC "_law_links" (defScope s_links) s.heap.objs.size T.f_links cdv))) :
    MSs B (cxOf (L2.CX P w) P w K mg base ["_law_pen_here", "_law_size_here", "_law_way", "_law_deep", "_law_rows", "_law_k", "_law_v", "_law_holder", "_law_row", "_law_a", "_law_b"] "_law_links" (defScope s_links) T.f_links cdv A outer s H xe).nox (defBody s_links) b_links :=
  (mss_cons (ms_set (i := 2) sc_links.nd rfl (by first | exact Or.inl rfl | exact Or.inr rfl) (m_call g_draw (hr.mono (by decide)) (by rfl) T.d_draw.mgx T.d_draw.kp T.d_draw.bd (ma_cons (mv 0) (ma_cons m_int ma_nil))))
    (mss_cons (ms_set (i := 3) sc_links.nd rfl (by first | exact Or.inl rfl | exact Or.inr rfl) (m_call g_draw (hr.mono (by decide)) (by rfl) T.d_draw.mgx T.d_draw.kp T.d_draw.bd (ma_cons (mv 0) (ma_cons m_int ma_nil))))
    (mss_cons (ms_setLc (i := 4) false rfl sc_links.nd rfl rfl rfl (mi_rng1 (by rfl) T.n_range (mv 1)) (blkOk_by (own := [("_law_k", 5)]) (by kernel_rfl)) (by decide) (fun _ _ _ _ _ => (mg_name (i := 5) sc_links.nd rfl (by first | exact Or.inl rfl | exact Or.inr rfl))) (fun _ _ _ _ _ => mts_nil) (fun _ _ _ _ _ => (m_lst true ma_nil)))
    (mss_cons (ms_for PassesOwn.never rfl (mi_rng2 (by rfl) T.n_range m_int (mv 1)) (mg_name (i := 6) sc_links.nd rfl (by first | exact Or.inl rfl | exact Or.inr rfl)) (mss_cons (ms_set (i := 7) sc_links.nd rfl (by first | exact Or.inl rfl | exact Or.inr rfl) (m_ix (m_lst false (ma_cons (m_call g_draw (hr.mono (by decide)) (by rfl) T.d_draw.mgx T.d_draw.kp T.d_draw.bd (ma_cons (mv 0) (ma_cons (mv 6) ma_nil))) (ma_cons (m_op o_sub (mv 6) m_int) (ma_cons (m_callB (c_max2 rfl) (by rfl) T.n_max bb_max (ma_cons m_int (ma_cons (m_op o_sub (m_op o_sub (mv 6) m_int) (m_call g_draw (hr.mono (by decide)) (by rfl) T.d_draw.mgx T.d_draw.kp T.d_draw.bd (ma_cons (mv 0) (ma_cons m_int ma_nil)))) ma_nil))) ma_nil)))) (mv 3)))
    (mss_cons (ms_set (i := 8) sc_links.nd rfl (by first | exact Or.inl rfl | exact Or.inr rfl) (m_ix (mv 4) (mv 7)))
    (mss_one (ms_expr (m_bm PySem.F.plainAttrs_list PySem.F.slot_list_insert PySem.F.type_list_insert mm_insert (mv 8) (ma_cons (m_call g_draw (hr.mono (by decide)) (by rfl) T.d_draw.mgx T.d_draw.kp T.d_draw.bd (ma_cons (mv 0) (ma_cons (m_op (o_add (own := false)) (m_callB c_len (by rfl) T.n_len bb_len (ma_cons (mv 8) ma_nil)) m_int) ma_nil))) (ma_cons (mv 6) ma_nil))))))))
    (mss_cons (ms_for PassesOwn.never rfl (mi_rng1 (by rfl) T.n_range (m_ix (m_lst false (ma_cons m_int (ma_cons (m_call g_draw (hr.mono (by decide)) (by rfl) T.d_draw.mgx T.d_draw.kp T.d_draw.bd (ma_cons (mv 0) (ma_cons m_int ma_nil))) (ma_cons (mv 1) (ma_cons (m_op (o_mul (own := false)) m_int (mv 1)) ma_nil))))) (mv 2))) (mg_name (i := 5) sc_links.nd rfl (by first | exact Or.inl rfl | exact Or.inr rfl)) (mss_cons (ms_set (i := 9) sc_links.nd rfl (by first | exact Or.inl rfl | exact Or.inr rfl) (m_call g_draw (hr.mono (by decide)) (by rfl) T.d_draw.mgx T.d_draw.kp T.d_draw.bd (ma_cons (mv 0) (ma_cons (mv 1) ma_nil))))
    (mss_cons (ms_set (i := 10) sc_links.nd rfl (by first | exact Or.inl rfl | exact Or.inr rfl) (m_call g_draw (hr.mono (by decide)) (by rfl) T.d_draw.mgx T.d_draw.kp T.d_draw.bd (ma_cons (mv 0) (ma_cons (mv 1) ma_nil))))
    (mss_cons (ms_if ((mw_and (mt_cmp o_le (mv 10) (mv 9)) (mw_and1 ((mw_or (mt_cmp o_lt (mv 2) m_int) (mw_or1 (mt_cmp o_gt (m_call g_draw (hr.mono (by decide)) (by rfl) T.d_draw.mgx T.d_draw.kp T.d_draw.bd (ma_cons (mv 0) (ma_cons m_int ma_nil))) m_int)))).mt))).mt (mss_one (ms_par (i := 9) (j := 10) rfl sc_links.nd rfl rfl (by decide) rfl rfl (m_callB (c_min2 rfl) (by rfl) T.n_min bb_min (ma_cons (mv 9) (ma_cons (mv 10) ma_nil))) (m_callB (c_min2 rfl) (by rfl) T.n_min bb_min (ma_cons (m_op o_sub (mv 1) m_int) (ma_cons (m_op (o_add (own := false)) (m_callB (c_max2 rfl) (by rfl) T.n_max bb_max (ma_cons (mv 9) (ma_cons (mv 10) ma_nil))) (m_callTy c_int (by rfl) T.n_int bb_int (ma_cons (m_cmp (o_eq hr.hu) (mv 9) (mv 10)) ma_nil))) ma_nil))))) mss_nil)
    (mss_cons (ms_set (i := 8) sc_links.nd rfl (by first | exact Or.inl rfl | exact Or.inr rfl) (m_ix (mv 4) (mv 9)))
    (mss_one (ms_if ((mw_and (mt_cmp o_lt (m_callB c_len (by rfl) T.n_len bb_len (ma_cons (mv 8) ma_nil)) m_int) (mw_and1 ((mw_or (mt_cmp (o_ne hr.hu) (mv 9) (mv 10)) (mw_or1 (mt_cmp (o_eq hr.hu) (mv 2) m_int)))).mt))).mt (mss_one (ms_expr (m_bm PySem.F.plainAttrs_list PySem.F.slot_list_insert PySem.F.type_list_insert mm_insert (mv 8) (ma_cons (m_call g_draw (hr.mono (by decide)) (by rfl) T.d_draw.mgx T.d_draw.kp T.d_draw.bd (ma_cons (mv 0) (ma_cons (m_op (o_add (own := false)) (m_callB c_len (by rfl) T.n_len bb_len (ma_cons (mv 8) ma_nil)) m_int) ma_nil))) (ma_cons (mv 10) ma_nil))))) mss_nil)))))))
    (mss_cons (ms_for PassesOwn.never rfl (mi_seq (mv 4)) (mg_name (i := 8) sc_links.nd rfl (by first | exact Or.inl rfl | exact Or.inr rfl)) (mss_one (ms_if (mt_cmp (o_eq hr.hu) (m_call g_draw (hr.mono (by decide)) (by rfl) T.d_draw.mgx T.d_draw.kp T.d_draw.bd (ma_cons (mv 0) (ma_cons m_int ma_nil))) m_int) (mss_one (ms_expr (m_bm PySem.F.plainAttrs_list PySem.F.slot_list_insert PySem.F.type_list_insert mm_insert (mv 8) (ma_cons (m_call g_draw (hr.mono (by decide)) (by rfl) T.d_draw.mgx T.d_draw.kp T.d_draw.bd (ma_cons (mv 0) (ma_cons (m_op (o_add (own := false)) (m_callB c_len (by rfl) T.n_len bb_len (ma_cons (mv 8) ma_nil)) m_int) ma_nil))) (ma_cons m_non ma_nil))))) mss_nil)))
    (mss_one (ms_ret (mv 4)))))))))
def b_heap_12 : TSm := (mRet (mTup (mCons (mTup (mCons (mCB mTupl (mCons (mVar 6) mNil)) (mCons (mCB mTupl (mCons (mVar 7) mNil)) mNil))) (mCons (mOp mIx (mVar 5) (mC (.int 0))) mNil))))
def b_heap_11 : TSm := (mSeq (mSetI (mOp mIx (mLst false (mCons (mC (.int 1)) (mCons (mC (.int 1)) (mCons (mC (.int 1)) (mCons (mC (.int 2)) (mCons (mC (.int 9)) mNil)))))) (mCall sp_draw noX (mCons (mVar 0) (mCons (mC (.int 5)) mNil)))) (mVar 7) (mOp mIx (mVar 5) (mC (.int 0)))) b_heap_12)
def b_heap_10 : TSm := (mSetI (mOp (mAdd false) (mC (.int 1)) (mCall sp_draw noX (mCons (mVar 0) (mCons (mC (.int 9)) mNil)))) (mVar 7) (mOp mIx (mVar 5) (mVar 8)))
def b_heap_9 : TSm := (mIfS (mAndT (mTest (mOp mGt (mVar 8) (mC (.int 0)))) (mTest (mOp mEq (mCall sp_draw noX (mCons (mVar 0) (mCons (mC (.int 9)) mNil))) (mC (.int 0))))) b_heap_10 mNext)
def b_heap_8 : TSm := (mSeq (mSetI (mCB mTupl (mCons (mLc false (mSeqI (mOp mIx (mVar 3) (mVar 8))) (.nm 9) mYes (mIf (mTest (mOp mIsN (mVar 9) (mC .non))) (mC .non) (mOp mIx (mVar 5) (mVar 9))) [9]) mNil)) (mVar 6) (mOp mIx (mVar 5) (mVar 8))) b_heap_9)
def b_heap_7 : TSm := (mSeq (mFor (mRng1 (mVar 2)) (.nm 8) b_heap_8) b_heap_11)
def b_heap_6 : TSm := (mSeq (mAsg (mOp (mMul true) (mLst false (mCons (mC (.int 0)) mNil)) (mOp (mAdd false) (mVar 2) (mVar 4))) (.nm 7)) b_heap_7)
def b_heap_5 : TSm := (mSeq (mAsg (mOp (mMul true) (mLst false (mCons (mC .non) mNil)) (mOp (mAdd false) (mVar 2) (mVar 4))) (.nm 6)) b_heap_6)
def b_heap_4 : TSm := (mSeq (mAsg (mCall sp_order noX (mCons (mVar 0) (mCons (mOp (mAdd false) (mVar 2) (mVar 4)) mNil))) (.nm 5)) b_heap_5)
def b_heap_3 : TSm := (mSeq (mAsg (mCB mMin2 (mCons (mOp mSub (mC (.int 40)) (mVar 2)) (mCons (mOp mIx (mLst false (mCons (mC (.int 0)) (mCons (mC (.int 0)) (mCons (mC (.int 1)) (mCons (mCall sp_draw noX (mCons (mVar 0) (mCons (mC (.int 4)) mNil))) mNil))))) (mCall sp_draw noX (mCons (mVar 0) (mCons (mC (.int 4)) mNil)))) mNil))) (.nm 4)) b_heap_4)
def b_heap_2 : TSm := (mSeq (mAsg (mCall sp_links noX (mCons (mVar 0) (mCons (mVar 2) mNil))) (.nm 3)) b_heap_3)
def b_heap : TSm := (mSeq (mAsg (mCall sp_size noX (mCons (mVar 0) (mCons (mVar 1) mNil))) (.nm 2)) b_heap_2)
theorem walk_heap (T : Prg K mg) (g_size : FnG P w K mg base 2 T.f_size T.fd_size ["_law_pen_here", "_law_most"] sp_size) (g_links : FnG P w K mg base 2 T.f_links T.fd_links ["_law_pen_here", "_law_size_here"] sp_links) (g_order : FnG P w K mg base 2 T.f_order T.fd_order ["_law_pen_here", "_law_size_here"] sp_order) (g_draw : FnG P w K mg base 1 T.f_draw T.fd_draw ["_law_pen_here", "_law_bound"] sp_draw) {B : Bs} {cdv : Value} {A : Around} {outer : List Env} {s : Shared} {H : Hp} {xe : XK} (hr : Rm 2 (A.deeper (envOfC "_law_heap" (defScope s_heap) s.heap.objs.size T.f_heap cdv))) :
    MSs B (cxOf (L2.CX P w) P w K mg base ["_law_pen_here", "_law_most", "_law_size_here", "_law_rows", "_law_spare", "_law_names", "_law_slots", "_law_outside", "_law_v", "_law_held"] "_law_heap" (defScope s_heap) T.f_heap cdv A outer s H xe).nox (defBody s_heap) b_heap :=
  (mss_cons (ms_set (i := 2) sc_heap.nd rfl (by first | exact Or.inl rfl | exact Or.inr rfl) (m_call g_size (hr.mono (by decide)) (by rfl) T.d_size.mgx T.d_size.kp T.d_size.bd (ma_cons (mv 0) (ma_cons (mv 1) ma_nil))))
    (mss_cons (ms_set (i := 3) sc_heap.nd rfl (by first | exact Or.inl rfl | exact Or.inr rfl) (m_call g_links (hr.mono (by decide)) (by rfl) T.d_links.mgx T.d_links.kp T.d_links.bd (ma_cons (mv 0) (ma_cons (mv 2) ma_nil))))
    (mss_cons (ms_set (i := 4) sc_heap.nd rfl (by first | exact Or.inl rfl | exact Or.inr rfl) (m_callB (c_min2 rfl) (by rfl) T.n_min bb_min (ma_cons (m_op o_sub m_int (mv 2)) (ma_cons (m_ix (m_lst false (ma_cons m_int (ma_cons m_int (ma_cons m_int (ma_cons (m_call g_draw (hr.mono (by decide)) (by rfl) T.d_draw.mgx T.d_draw.kp T.d_draw.bd (ma_cons (mv 0) (ma_cons m_int ma_nil))) ma_nil))))) (m_call g_draw (hr.mono (by decide)) (by rfl) T.d_draw.mgx T.d_draw.kp T.d_draw.bd (ma_cons (mv 0) (ma_cons m_int ma_nil)))) ma_nil))))
    (mss_cons (ms_set (i := 5) sc_heap.nd rfl (by first | exact Or.inl rfl | exact Or.inr rfl) (m_call g_order (hr.mono (by decide)) (by rfl) T.d_order.mgx T.d_order.kp T.d_order.bd (ma_cons (mv 0) (ma_cons (m_op (o_add (own := false)) (mv 2) (mv 4)) ma_nil))))
    (mss_cons (ms_set (i := 6) sc_heap.nd rfl (by first | exact Or.inl rfl | exact Or.inr rfl) (m_op (o_mul (own := true)) (m_lst false (ma_cons m_non ma_nil)) (m_op (o_add (own := false)) (mv 2) (mv 4))))
    (mss_cons (ms_set (i := 7) sc_heap.nd rfl (by first | exact Or.inl rfl | exact Or.inr rfl) (m_op (o_mul (own := true)) (m_lst false (ma_cons m_int ma_nil)) (m_op (o_add (own := false)) (mv 2) (mv 4))))
    (mss_cons (ms_for PassesOwn.never rfl (mi_rng1 (by rfl) T.n_range (mv 2)) (mg_name (i := 8) sc_heap.nd rfl (by first | exact Or.inl rfl | exact Or.inr rfl)) (mss_cons (ms_setI (m_callTy c_tuple (by rfl) T.n_tuple bb_tuple (ma_cons (m_lc false rfl sc_heap.nd (mi_seq (m_ix (mv 3) (mv 8))) (blkOk_by (own := [("_law_held", 9)]) (by kernel_rfl)) (by decide) (fun _ _ _ _ _ => (mg_name (i := 9) sc_heap.nd rfl (by first | exact Or.inl rfl | exact Or.inr rfl))) (fun _ _ _ _ _ => mts_nil) (fun _ _ _ _ _ => (m_ifE (mt_cmp o_isN (mv 9) m_non) m_non (m_ix (mv 5) (mv 9))))) ma_nil)) (mv 6) (m_ix (mv 5) (mv 8)))
    (mss_one (ms_if ((mw_and (mt_cmp o_gt (mv 8) m_int) (mw_and1 (mt_cmp (o_eq hr.hu) (m_call g_draw (hr.mono (by decide)) (by rfl) T.d_draw.mgx T.d_draw.kp T.d_draw.bd (ma_cons (mv 0) (ma_cons m_int ma_nil))) m_int)))).mt (mss_one (ms_setI (m_op (o_add (own := false)) m_int (m_call g_draw (hr.mono (by decide)) (by rfl) T.d_draw.mgx T.d_draw.kp T.d_draw.bd (ma_cons (mv 0) (ma_cons m_int ma_nil)))) (mv 7) (m_ix (mv 5) (mv 8)))) mss_nil))))
    (mss_cons (ms_setI (m_ix (m_lst false (ma_cons m_int (ma_cons m_int (ma_cons m_int (ma_cons m_int (ma_cons m_int ma_nil)))))) (m_call g_draw (hr.mono (by decide)) (by rfl) T.d_draw.mgx T.d_draw.kp T.d_draw.bd (ma_cons (mv 0) (ma_cons m_int ma_nil)))) (mv 7) (m_ix (mv 5) m_int))
    (mss_one (ms_ret (m_tup (ma_cons (m_tup (ma_cons (m_callTy c_tuple (by rfl) T.n_tuple bb_tuple (ma_cons (mv 6) ma_nil)) (ma_cons (m_callTy c_tuple (by rfl) T.n_tuple bb_tuple (ma_cons (mv 7) ma_nil)) ma_nil))) (ma_cons (m_ix (mv 5) m_int) ma_nil)))))))))))))
def b_heap_text_9 : TSm := (mRet (mBM "str" mJoin (mC (.str "\n")) (mCons (mVar 1) mNil)))
def b_heap_text_8 : TSm := (mDrop (mBM "list" mAppend (mVar 1) (mCons (mVar 4) mNil)))
def b_heap_text_7 : TSm := (mAsg (mOp (mAdd false) (mOp (mAdd false) (mVar 4) (mC (.str " "))) (mOp mIx (mLst false (mCons (mC (.str "-")) (mCons (mCB mStr (mCons (mVar 5) mNil)) mNil))) (mCB mInt (mCons (mOp mNotN (mVar 5) (mC .non)) mNil)))) (.nm 4))
def b_heap_text_6 : TSm := (mFor (mSeqI (mVar 3)) (.nm 5) b_heap_text_7)
def b_heap_text_5 : TSm := (mSeq (mAsg (mCB mStr (mCons (mOp mIx (mOp mIx (mVar 0) (mC (.int 1))) (mVar 2)) mNil)) (.nm 4)) b_heap_text_6)
def b_heap_text_4 : TSm := (mSeq (mIfS (mTest (mOp mNotN (mVar 3) (mC .non))) b_heap_text_5 mNext) b_heap_text_8)
def b_heap_text_3 : TSm := (mSeq (mAsg (mC (.str "free")) (.nm 4)) b_heap_text_4)
def b_heap_text_2 : TSm := (mSeq (mFor (mEnum (mOp mIx (mVar 0) (mC (.int 0)))) (.tp [(.nm 2), (.nm 3)]) b_heap_text_3) b_heap_text_9)
def b_heap_text : TSm := (mSeq (mAsg (mLst true mNil) (.nm 1)) b_heap_text_2)
theorem walk_heap_text (T : Prg K mg)  {B : Bs} {cdv : Value} {A : Around} {outer : List Env} {s : Shared} {H : Hp} {xe : XK} (hr : Rm 0 (A.deeper (envOfC "_law_heap_text" (defScope s_heap_text) s.heap.objs.size T.f_heap_text cdv))) :
    MSs B (cxOf (L2.CX P w) P w K mg base ["_law_home", "_law_lines", "_law_v", "_law_row", "_law_line", "_law_held"] "_law_heap_text" (defScope s_heap_text) T.f_heap_text cdv A outer s H xe).nox (defBody s_heap_text) b_heap_text :=
  (mss_cons (ms_set (i := 1) sc_heap_text.nd rfl (by first | exact Or.inl rfl | exact Or.inr rfl) (m_lst true ma_nil))
    (mss_cons (ms_for PassesOwn.never rfl (mi_enum (by rfl) T.n_enumerate (m_ix (mv 0) m_int)) (mg_tup rfl (mgs_cons (mg_name (i := 2) sc_heap_text.nd rfl (by first | exact Or.inl rfl | exact Or.inr rfl)) (mgs_cons (mg_name (i := 3) sc_heap_text.nd rfl (by first | exact Or.inl rfl | exact Or.inr rfl)) mgs_nil))) (mss_cons (ms_set (i := 4) sc_heap_text.nd rfl (by first | exact Or.inl rfl | exact Or.inr rfl) m_str)
    (mss_cons (ms_if (mt_cmp o_notN (mv 3) m_non) (mss_cons (ms_set (i := 4) sc_heap_text.nd rfl (by first | exact Or.inl rfl | exact Or.inr rfl) (m_callTy c_str (by rfl) T.n_str bb_str (ma_cons (m_ix (m_ix (mv 0) m_int) (mv 2)) ma_nil)))
    (mss_one (ms_for PassesOwn.never rfl (mi_seq (mv 3)) (mg_name (i := 5) sc_heap_text.nd rfl (by first | exact Or.inl rfl | exact Or.inr rfl)) (mss_one (ms_set (i := 4) sc_heap_text.nd rfl (by first | exact Or.inl rfl | exact Or.inr rfl) (m_op (o_add (own := false)) (m_op (o_add (own := false)) (mv 4) m_str) (m_ix (m_lst false (ma_cons m_str (ma_cons (m_callTy c_str (by rfl) T.n_str bb_str (ma_cons (mv 5) ma_nil)) ma_nil))) (m_callTy c_int (by rfl) T.n_int bb_int (ma_cons (m_cmp o_notN (mv 5) m_non) ma_nil))))))))) mss_nil)
    (mss_one (ms_expr (m_bm PySem.F.plainAttrs_list PySem.F.slot_list_append PySem.F.type_list_append mm_append (mv 1) (ma_cons (mv 4) ma_nil)))))))
    (mss_one (ms_ret (m_bm PySem.F.plainAttrs_str PySem.F.slot_str_join PySem.F.type_str_join mm_join m_str (ma_cons (mv 1) ma_nil))))))
def b_wide_7 : TSm := (mRet (mTup (mCons (mCB mTupl (mCons (mVar 3) mNil)) (mCons (mCB mTupl (mCons (mLc false (mRng1 (mVar 1)) (.nm 4) mYes (mOp (mAdd false) (mC (.int 1)) (mCall sp_draw noX (mCons (mVar 0) (mCons (mC (.int 9)) mNil)))) [4]) mNil)) mNil))))
def b_wide_6 : TSm := (mDrop (mBM "list" mAppend (mVar 3) (mCons (mCB mTupl (mCons (mLc false (mSeqI (mVar 5)) (.nm 7) mYes (mIf (mTest (mOp mEq (mVar 7) (mVar 1))) (mC .non) (mVar 7)) [7]) mNil)) mNil)))
def b_wide_5 : TSm := (mSeq (mAsg (mLc false (mRng1 (mCall sp_draw noX (mCons (mVar 0) (mCons (mOp (mAdd false) (mVar 2) (mC (.int 1))) mNil)))) (.nm 6) mYes (mCall sp_draw noX (mCons (mVar 0) (mCons (mOp (mAdd false) (mVar 1) (mC (.int 1))) mNil))) [6]) (.nm 5)) b_wide_6)
def b_wide_4 : TSm := (mSeq (mFor (mRng1 (mVar 1)) (.nm 4) b_wide_5) b_wide_7)
def b_wide_3 : TSm := (mSeq (mAsg (mLst true mNil) (.nm 3)) b_wide_4)
def b_wide_2 : TSm := (mSeq (mAsg (mOp (mAdd false) (mC (.int 1)) (mCall sp_draw noX (mCons (mVar 0) (mCons (mC (.int 40)) mNil)))) (.nm 2)) b_wide_3)
def b_wide : TSm := (mSeq (mAsg (mOp (mAdd false) (mC (.int 1)) (mCall sp_draw noX (mCons (mVar 0) (mCons (mC (.int 40)) mNil)))) (.nm 1)) b_wide_2)
theorem walk_wide (T : Prg K mg) (g_draw : FnG P w K mg base 1 T.f_draw T.fd_draw ["_law_pen_here", "_law_bound"] sp_draw) {B : Bs} {cdv : Value} {A : Around} {outer : List Env} {s : Shared} {H : Hp} {xe : XK} (hr : Rm 1 (A.deeper (envOfC "_law_wide" (defScope s_wide) s.heap.objs.size T.f_wide cdv))) :
    MSs B (cxOf (L2.CX P w) P w K mg base ["_law_pen_here", "_law_size_here", "_law_most", "_law_rows", "_law_v", "_law_some", "_law_at", "_law_held"] "_law_wide" (defScope s_wide) T.f_wide cdv A outer s H xe).nox (defBody s_wide) b_wide :=
  (mss_cons (ms_set (i := 1) sc_wide.nd rfl (by first | exact Or.inl rfl | exact Or.inr rfl) (m_op (o_add (own := false)) m_int (m_call g_draw (hr.mono (by decide)) (by rfl) T.d_draw.mgx T.d_draw.kp T.d_draw.bd (ma_cons (mv 0) (ma_cons m_int ma_nil)))))
    (mss_cons (ms_set (i := 2) sc_wide.nd rfl (by first | exact Or.inl rfl | exact Or.inr rfl) (m_op (o_add (own := false)) m_int (m_call g_draw (hr.mono (by decide)) (by rfl) T.d_draw.mgx T.d_draw.kp T.d_draw.bd (ma_cons (mv 0) (ma_cons m_int ma_nil)))))
    (mss_cons (ms_set (i := 3) sc_wide.nd rfl (by first | exact Or.inl rfl | exact Or.inr rfl) (m_lst true ma_nil))
    (mss_cons (ms_for PassesOwn.never rfl (mi_rng1 (by rfl) T.n_range (mv 1)) (mg_name (i := 4) sc_wide.nd rfl (by first | exact Or.inl rfl | exact Or.inr rfl)) (mss_cons (ms_setLc (i := 5) false rfl sc_wide.nd rfl rfl rfl (mi_rng1 (by rfl) T.n_range (m_call g_draw (hr.mono (by decide)) (by rfl) T.d_draw.mgx T.d_draw.kp T.d_draw.bd (ma_cons (mv 0) (ma_cons (m_op (o_add (own := false)) (mv 2) m_int) ma_nil)))) (blkOk_by (own := [("_law_at", 6)]) (by kernel_rfl)) (by decide) (fun _ _ _ _ _ => (mg_name (i := 6) sc_wide.nd rfl (by first | exact Or.inl rfl | exact Or.inr rfl))) (fun _ _ _ _ _ => mts_nil) (fun _ _ _ _ _ => (m_call g_draw (hr.mono (by decide)) (by rfl) T.d_draw.mgx T.d_draw.kp T.d_draw.bd (ma_cons (mv 0) (ma_cons (m_op (o_add (own := false)) (mv 1) m_int) ma_nil)))))
    (mss_one (ms_expr (m_bm PySem.F.plainAttrs_list PySem.F.slot_list_append PySem.F.type_list_append mm_append (mv 3) (ma_cons (m_callTy c_tuple (by rfl) T.n_tuple bb_tuple (ma_cons (m_lc false rfl sc_wide.nd (mi_seq (mv 5)) (blkOk_by (own := [("_law_held", 7)]) (by kernel_rfl)) (by decide) (fun _ _ _ _ _ => (mg_name (i := 7) sc_wide.nd rfl (by first | exact Or.inl rfl | exact Or.inr rfl))) (fun _ _ _ _ _ => mts_nil) (fun _ _ _ _ _ => (m_ifE (mt_cmp (o_eq hr.hu) (mv 7) (mv 1)) m_non (mv 7)))) ma_nil)) ma_nil))))))
    (mss_one (ms_ret (m_tup (ma_cons (m_callTy c_tuple (by rfl) T.n_tuple bb_tuple (ma_cons (mv 3) ma_nil)) (ma_cons (m_callTy c_tuple (by rfl) T.n_tuple bb_tuple (ma_cons (m_lc false rfl sc_wide.nd (mi_rng1 (by rfl) T.n_range (mv 1)) (blkOk_by (own := [("_law_v", 4)]) (by kernel_rfl)) (by decide) (fun _ _ _ _ _ => (mg_name (i := 4) sc_wide.nd rfl (by first | exact Or.inl rfl | exact Or.inr rfl))) (fun _ _ _ _ _ => mts_nil) (fun _ _ _ _ _ => (m_op (o_add (own := false)) m_int (m_call g_draw (hr.mono (by decide)) (by rfl) T.d_draw.mgx T.d_draw.kp T.d_draw.bd (ma_cons (mv 0) (ma_cons m_int ma_nil)))))) ma_nil)) ma_nil)))))))))
def b_law_8 : TSm := (mRet (mC (.bl true)))
def b_law_7 : TSm := (mRet (mC (.bl false)))
def b_law_6 : TSm := (mIfS (mOrT (mTest (mOp mNe (mCB mRepr (mCons (mCall sp_parse_heap noX (mCons (mVar 5) mNil)) mNil)) (mCB mRepr (mCons (mVar 4) mNil)))) (mTest (mOp mNe (mCB mRepr (mCons (mCallK sp_parse_heap noX (fun us ws => us ++ ws) 0 1 mNil (mCons (mVar 5) mNil)) mNil)) (mCB mRepr (mCons (mVar 4) mNil))))) b_law_7 mNext)
def b_law_5 : TSm := (mSeq (mAsg (mCall sp_heap_text noX (mCons (mVar 4) mNil)) (.nm 5)) b_law_6)
def b_law_4 : TSm := (mSeq (mFor (mSeqI (mOp (mAdd false) (mVar 3) (mLst false (mCons (mTup (mCons (mTup mNil) (mCons (mTup mNil) mNil))) (mCons (mTup (mCons (mTup (mCons (mC .non) mNil)) (mCons (mTup (mCons (mC (.int 0)) mNil)) mNil))) (mCons (mTup (mCons (mTup (mCons (mTup mNil) mNil)) (mCons (mTup (mCons (mC (.int 9)) mNil)) mNil))) mNil)))))) (.nm 4) b_law_5) b_law_8)
def b_law_3 : TSm := (mSeq (mAsg (mLst false (mCons (mOp mIx (mCall sp_heap noX (mCons (mVar 1) (mCons (mC (.int 12)) mNil))) (mC (.int 0))) (mCons (mOp mIx (mCall sp_heap noX (mCons (mVar 1) (mCons (mC (.int 40)) mNil))) (mC (.int 0))) (mCons (mCall sp_wide noX (mCons (mVar 1) mNil)) (mCons (mVar 2) mNil))))) (.nm 3)) b_law_4)
def b_law_2 : TSm := (mSeq (mAsg (mTup (mCons (mOp (mMul false) (mTup (mCons (mTupRg1 (mC (.int 40))) mNil)) (mC (.int 40))) (mCons (mOp (mMul false) (mTup (mCons (mC (.int 0)) mNil)) (mC (.int 40))) mNil))) (.nm 2)) b_law_3)
def b_law : TSm := (mSeq (mAsg (mCall sp_pen noX (mCons (mVar 0) mNil)) (.nm 1)) b_law_2)
theorem walk_law (T : Prg K mg) (g_pen : FnG P w K mg base 1 T.f_pen T.fd_pen ["_law_script"] sp_pen) (g_wide : FnG P w K mg base 2 T.f_wide T.fd_wide ["_law_pen_here"] sp_wide) (g_heap_text : FnG P w K mg base 1 T.f_heap_text T.fd_heap_text ["_law_home"] sp_heap_text) (g_heap : FnG P w K mg base 3 T.f_heap T.fd_heap ["_law_pen_here", "_law_most"] sp_heap) (g_parse_heap : FnG P w K mg base 6 T.f_parse_heap T.fd_parse_heap ["text"] sp_parse_heap) {B : Bs} {cdv : Value} {A : Around} {outer : List Env} {s : Shared} {H : Hp} {xe : XK} (hr : Rm 6 (A.deeper (envOfC "law" (defScope s_law) s.heap.objs.size T.f_law cdv))) :
    MSs B (cxOf (L2.CX P w) P w K mg base ["_law_script", "_law_pen_here", "_law_full", "_law_homes", "_law_home", "_law_page"] "law" (defScope s_law) T.f_law cdv A outer s H xe).nox (defBody s_law) b_law :=
  (mss_cons (ms_set (i := 1) sc_law.nd rfl (by first | exact Or.inl rfl | exact Or.inr rfl) (m_call g_pen (hr.mono (by decide)) (by rfl) T.d_pen.mgx T.d_pen.kp T.d_pen.bd (ma_cons (mv 0) ma_nil)))
    (mss_cons (ms_set (i := 2) sc_law.nd rfl (by first | exact Or.inl rfl | exact Or.inr rfl) (m_tup (ma_cons (m_op (o_mul (own := false)) (m_tup (ma_cons (m_tupRg1 rfl (by rfl) T.n_tuple (by rfl) T.n_range m_int) ma_nil)) m_int) (ma_cons (m_op (o_mul (own := false)) (m_tup (ma_cons m_int ma_nil)) m_int) ma_nil))))
    (mss_cons (ms_set (i := 3) sc_law.nd rfl (by first | exact Or.inl rfl | exact Or.inr rfl) (m_lst false (ma_cons (m_ix (m_call g_heap (hr.mono (by decide)) (by rfl) T.d_heap.mgx T.d_heap.kp T.d_heap.bd (ma_cons (mv 1) (ma_cons m_int ma_nil))) m_int) (ma_cons (m_ix (m_call g_heap (hr.mono (by decide)) (by rfl) T.d_heap.mgx T.d_heap.kp T.d_heap.bd (ma_cons (mv 1) (ma_cons m_int ma_nil))) m_int) (ma_cons (m_call g_wide (hr.mono (by decide)) (by rfl) T.d_wide.mgx T.d_wide.kp T.d_wide.bd (ma_cons (mv 1) ma_nil)) (ma_cons (mv 2) ma_nil))))))
    (mss_cons (ms_for PassesOwn.never rfl (mi_seq (m_op (o_add (own := false)) (mv 3) (m_lst false (ma_cons (m_tup (ma_cons (m_tup ma_nil) (ma_cons (m_tup ma_nil) ma_nil))) (ma_cons (m_tup (ma_cons (m_tup (ma_cons m_non ma_nil)) (ma_cons (m_tup (ma_cons m_int ma_nil)) ma_nil))) (ma_cons (m_tup (ma_cons (m_tup (ma_cons (m_tup ma_nil) ma_nil)) (ma_cons (m_tup (ma_cons m_int ma_nil)) ma_nil))) ma_nil)))))) (mg_name (i := 4) sc_law.nd rfl (by first | exact Or.inl rfl | exact Or.inr rfl)) (mss_cons (ms_set (i := 5) sc_law.nd rfl (by first | exact Or.inl rfl | exact Or.inr rfl) (m_call g_heap_text (hr.mono (by decide)) (by rfl) T.d_heap_text.mgx T.d_heap_text.kp T.d_heap_text.bd (ma_cons (mv 4) ma_nil)))
    (mss_one (ms_if ((mw_or (mt_cmp (o_ne hr.hu) (m_callB (c_repr hr) (by rfl) T.n_repr bb_repr (ma_cons (m_call g_parse_heap (hr.mono (by decide)) (by rfl) T.d_parse_heap.mgx T.d_parse_heap.kp T.d_parse_heap.bd (ma_cons (mv 5) ma_nil)) ma_nil)) (m_callB (c_repr hr) (by rfl) T.n_repr bb_repr (ma_cons (mv 4) ma_nil))) (mw_or1 (mt_cmp (o_ne hr.hu) (m_callB (c_repr hr) (by rfl) T.n_repr bb_repr (ma_cons (m_callK0E passX_no g_parse_heap (hr.mono (by decide)) (by rfl) T.d_parse_heap.mgx T.d_parse_heap.kp (kb_app (ks := ["text"]) (n := 0) T.d_parse_heap.fn fun _ _ _ _ _ _ us ws h1 h2 => match us, h1, ws, h2 with | [], _, [_], _ => rfl) (mk_cons (mv 5) mk_nil)) ma_nil)) (m_callB (c_repr hr) (by rfl) T.n_repr bb_repr (ma_cons (mv 4) ma_nil)))))).mt (mss_one (ms_ret m_bl)) mss_nil))))
    (mss_one (ms_ret m_bl))))))
end
end Q82

set_option maxRecDepth 100000
namespace Q82
open PySem PySem.Spec L2 ML
open PyProof.Rows hiding St
theorem law_pen (x0 : D) (G : Gp) (q : MK) (h : p_pen x0 G q) : b_pen { nx := fun _ G' => less q .non G', rt := less q } (startM ["_law_script"] [x0]) G := by
  obtain ⟨ns, rfl, k⟩ := h
  simp only [b_pen, mSeq, mIfS, mAsg, mRet, mRetN, mDrop, mTest, mOp, mC, mVar, mSetI, mNext, mCB, mCons, mNil, mAndT, mOrT, mNotT, mTruT, mIf, mNeg, mOr, mAnd, mNot, mLst, mTup, mBM, mBM0, mPar, mCall, mCallK, mLstRg1, mTupRg1, mRng1, mRng2, mEnum, mZipT, mFor, mSl, mNoPart, mPart, mLc, wipeM, List.set_cons_zero, List.set_cons_succ, startM, List.map_cons, List.map_nil, List.cons_append, List.nil_append, List.length_cons, List.length_nil, List.replicate, List.getElem?_cons_zero, List.getElem?_cons_succ, Option.some.injEq, Nat.reduceSub, Nat.reduceAdd, true_and, exists_eq_left, exists_eq_left', e_ix_tup, e_ix_lst, e_ix_fz, e_ix_ref, e_lo_lst, e_lo_fz, e_lo_ref, e_so_lst, e_so_fz, e_so_tup, e_so_ref, e_hd_lst, e_hd_ref, e_add_int, e_add_str, e_add_tup, e_add_lst, e_sub_int, e_mul_int, e_mul_lst, e_mul_tup, e_mod_int, e_fdv_int, e_pow_int, e_lt_int, e_le_int, e_gt_int, e_ge_int, e_eq_int, e_ne_int, e_eq_str, e_ne_str, e_isN, e_notN, e_isN_non, e_isN_int, e_isN_tup, e_isN_str, e_isN_ref, e_isN_lst, e_abs, e_max2, e_min2, e_int_int, e_int_bl, e_str_int, e_str_str, e_str_non, e_len_str, e_len_tup, e_len_lst, e_len_fz, e_len_ref, e_list_tup, e_list_lst, e_list_fz, e_list_ref, e_tupl_tup, e_tupl_lst, e_tupl_ref, e_newT, e_newF, e_run_nm, e_run_tp, e_runs_nil, e_runs_cons, e_tru_bl, e_tru_int, e_tru_str, e_tru_lst, e_tru_tup, e_ty_str, e_ty_lst, e_ty_ref, e_append, e_insert, e_popAt, e_pop0, e_join, e_seqI_val, e_cut_str, e_cut_tup, e_cut_lst, e_cut_fz, e_cut_ref]
  have e : cutD (ns.map D.int) none (some 63) = (ns.take 63).map D.int := by rw [show (63 : Int) = ((63 : Nat) : Int) from rfl, cutD_to, List.map_take]
  refine ⟨by decide, fun p hp => less_here (k p _ hp ⟨ns.take 63, 0, 0, ?_, by rw [List.length_take]; omega, by omega, by omega⟩)⟩
  rw [e]; rfl
theorem cpow_lt {i : Int} {j : Int} (h0 : 0 ≤ i) (h1 : i < 2 ^ 64) (j0 : 0 ≤ j) (j1 : j ≤ 1000000) : CPow i j := ⟨j0, j1, by omega⟩
theorem cmul_l {i j : Int} (h0 : -(2 ^ 64) < i) (h1 : i < 2 ^ 64) : CMul i j ∨ CMulW i j := .inl (.inl ⟨h0, h1⟩)
theorem cmul_r {i j : Int} (h0 : -(2 ^ 64) < j) (h1 : j < 2 ^ 64) : CMul i j ∨ CMulW i j := .inl (.inr ⟨h0, h1⟩)
theorem cdiv_b {i b : Int} (h0 : 1 ≤ b) (h1 : b ≤ 10 ^ 30) : CDivW i b := ⟨by omega, Nat.lt_trans (int_log (by omega) h1) (by decide)⟩
theorem law_draw (x0 x1 : D) (G : Gp) (q : MK) (h : p_draw x0 x1 G q) : b_draw { nx := fun _ G' => less q .non G', rt := less q } (startM ["_law_pen_here", "_law_bound", "_law_digit", "_law_at", "_law_cell", "_law_great", "_law_mixed"] [x0, x1]) G := by
  obtain ⟨a, b, m, o, rfl, rfl, b1, b2, h0, ⟨cells, k, rest, rfl, hc, k0, k1⟩, hm, kq⟩ := h
  simp only [b_draw, mSeq, mIfS, mAsg, mRet, mRetN, mDrop, mTest, mOp, mC, mVar, mSetI, mNext, mCB, mCons, mNil, mAndT, mOrT, mNotT, mTruT, mIf, mNeg, mOr, mAnd, mNot, mLst, mTup, mBM, mBM0, mPar, mCall, mCallK, mLstRg1, mTupRg1, mRng1, mRng2, mEnum, mZipT, mFor, mSl, mNoPart, mPart, mLc, wipeM, List.set_cons_zero, List.set_cons_succ, startM, List.map_cons, List.map_nil, List.cons_append, List.nil_append, List.length_cons, List.length_nil, List.replicate, List.getElem?_cons_zero, List.getElem?_cons_succ, Option.some.injEq, Nat.reduceSub, Nat.reduceAdd, true_and, exists_eq_left, exists_eq_left', e_ix_tup, e_ix_lst, e_ix_fz, e_ix_ref, e_lo_lst, e_lo_fz, e_lo_ref, e_so_lst, e_so_fz, e_so_tup, e_so_ref, e_hd_lst, e_hd_ref, e_add_int, e_add_str, e_add_tup, e_add_lst, e_sub_int, e_mul_int, e_mul_lst, e_mul_tup, e_mod_int, e_fdv_int, e_pow_int, e_lt_int, e_le_int, e_gt_int, e_ge_int, e_eq_int, e_ne_int, e_eq_str, e_ne_str, e_isN, e_notN, e_isN_non, e_isN_int, e_isN_tup, e_isN_str, e_isN_ref, e_isN_lst, e_abs, e_max2, e_min2, e_int_int, e_int_bl, e_str_int, e_str_str, e_str_non, e_len_str, e_len_tup, e_len_lst, e_len_fz, e_len_ref, e_list_tup, e_list_lst, e_list_fz, e_list_ref, e_tupl_tup, e_tupl_lst, e_tupl_ref, e_newT, e_newF, e_run_nm, e_run_tp, e_runs_nil, e_runs_cons, e_tru_bl, e_tru_int, e_tru_str, e_tru_lst, e_tru_tup, e_ty_str, e_ty_lst, e_ty_ref, e_append, e_insert, e_popAt, e_pop0, e_join, e_seqI_val, e_cut_str, e_cut_tup, e_cut_lst, e_cut_fz, e_cut_ref]
  refine ⟨_, _, h0, rfl, ?_⟩
  simp only [mSeq, mIfS, mAsg, mRet, mRetN, mDrop, mTest, mOp, mC, mVar, mSetI, mNext, mCB, mCons, mNil, mAndT, mOrT, mNotT, mTruT, mIf, mNeg, mOr, mAnd, mNot, mLst, mTup, mBM, mBM0, mPar, mCall, mCallK, mLstRg1, mTupRg1, mRng1, mRng2, mEnum, mZipT, mFor, mSl, mNoPart, mPart, mLc, wipeM, List.set_cons_zero, List.set_cons_succ, startM, List.map_cons, List.map_nil, List.cons_append, List.nil_append, List.length_cons, List.length_nil, List.replicate, List.getElem?_cons_zero, List.getElem?_cons_succ, Option.some.injEq, Nat.reduceSub, Nat.reduceAdd, true_and, exists_eq_left, exists_eq_left', e_ix_tup, e_ix_lst, e_ix_fz, e_ix_ref, e_lo_lst, e_lo_fz, e_lo_ref, e_so_lst, e_so_fz, e_so_tup, e_so_ref, e_hd_lst, e_hd_ref, e_add_int, e_add_str, e_add_tup, e_add_lst, e_sub_int, e_mul_int, e_mul_lst, e_mul_tup, e_mod_int, e_fdv_int, e_pow_int, e_lt_int, e_le_int, e_gt_int, e_ge_int, e_eq_int, e_ne_int, e_eq_str, e_ne_str, e_isN, e_notN, e_isN_non, e_isN_int, e_isN_tup, e_isN_str, e_isN_ref, e_isN_lst, e_abs, e_max2, e_min2, e_int_int, e_int_bl, e_str_int, e_str_str, e_str_non, e_len_str, e_len_tup, e_len_lst, e_len_fz, e_len_ref, e_list_tup, e_list_lst, e_list_fz, e_list_ref, e_tupl_tup, e_tupl_lst, e_tupl_ref, e_newT, e_newF, e_run_nm, e_run_tp, e_runs_nil, e_runs_cons, e_tru_bl, e_tru_int, e_tru_str, e_tru_lst, e_tru_tup, e_ty_str, e_ty_lst, e_ty_ref, e_append, e_insert, e_popAt, e_pop0, e_join, e_seqI_val, e_cut_str, e_cut_tup, e_cut_lst, e_cut_fz, e_cut_ref]
  by_cases hr : 0 < rest
  · simp only [hr, decide_true, b_draw_2, b_draw_3, b_draw_4, mSeq, mIfS, mAsg, mRet, mRetN, mDrop, mTest, mOp, mC, mVar, mSetI, mNext, mCB, mCons, mNil, mAndT, mOrT, mNotT, mTruT, mIf, mNeg, mOr, mAnd, mNot, mLst, mTup, mBM, mBM0, mPar, mCall, mCallK, mLstRg1, mTupRg1, mRng1, mRng2, mEnum, mZipT, mFor, mSl, mNoPart, mPart, mLc, wipeM, List.set_cons_zero, List.set_cons_succ, startM, List.map_cons, List.map_nil, List.cons_append, List.nil_append, List.length_cons, List.length_nil, List.replicate, List.getElem?_cons_zero, List.getElem?_cons_succ, Option.some.injEq, Nat.reduceSub, Nat.reduceAdd, true_and, exists_eq_left, exists_eq_left', e_ix_tup, e_ix_lst, e_ix_fz, e_ix_ref, e_lo_lst, e_lo_fz, e_lo_ref, e_so_lst, e_so_fz, e_so_tup, e_so_ref, e_hd_lst, e_hd_ref, e_add_int, e_add_str, e_add_tup, e_add_lst, e_sub_int, e_mul_int, e_mul_lst, e_mul_tup, e_mod_int, e_fdv_int, e_pow_int, e_lt_int, e_le_int, e_gt_int, e_ge_int, e_eq_int, e_ne_int, e_eq_str, e_ne_str, e_isN, e_notN, e_isN_non, e_isN_int, e_isN_tup, e_isN_str, e_isN_ref, e_isN_lst, e_abs, e_max2, e_min2, e_int_int, e_int_bl, e_str_int, e_str_str, e_str_non, e_len_str, e_len_tup, e_len_lst, e_len_fz, e_len_ref, e_list_tup, e_list_lst, e_list_fz, e_list_ref, e_tupl_tup, e_tupl_lst, e_tupl_ref, e_newT, e_newF, e_run_nm, e_run_tp, e_runs_nil, e_runs_cons, e_tru_bl, e_tru_int, e_tru_str, e_tru_lst, e_tru_tup, e_ty_str, e_ty_lst, e_ty_ref, e_append, e_insert, e_popAt, e_pop0, e_join, e_seqI_val, e_cut_str, e_cut_tup, e_cut_lst, e_cut_fz, e_cut_ref]
    refine ⟨_, _, h0, rfl, ?_⟩
    simp only [mSeq, mIfS, mAsg, mRet, mRetN, mDrop, mTest, mOp, mC, mVar, mSetI, mNext, mCB, mCons, mNil, mAndT, mOrT, mNotT, mTruT, mIf, mNeg, mOr, mAnd, mNot, mLst, mTup, mBM, mBM0, mPar, mCall, mCallK, mLstRg1, mTupRg1, mRng1, mRng2, mEnum, mZipT, mFor, mSl, mNoPart, mPart, mLc, wipeM, List.set_cons_zero, List.set_cons_succ, startM, List.map_cons, List.map_nil, List.cons_append, List.nil_append, List.length_cons, List.length_nil, List.replicate, List.getElem?_cons_zero, List.getElem?_cons_succ, Option.some.injEq, Nat.reduceSub, Nat.reduceAdd, true_and, exists_eq_left, exists_eq_left', e_ix_tup, e_ix_lst, e_ix_fz, e_ix_ref, e_lo_lst, e_lo_fz, e_lo_ref, e_so_lst, e_so_fz, e_so_tup, e_so_ref, e_hd_lst, e_hd_ref, e_add_int, e_add_str, e_add_tup, e_add_lst, e_sub_int, e_mul_int, e_mul_lst, e_mul_tup, e_mod_int, e_fdv_int, e_pow_int, e_lt_int, e_le_int, e_gt_int, e_ge_int, e_eq_int, e_ne_int, e_eq_str, e_ne_str, e_isN, e_notN, e_isN_non, e_isN_int, e_isN_tup, e_isN_str, e_isN_ref, e_isN_lst, e_abs, e_max2, e_min2, e_int_int, e_int_bl, e_str_int, e_str_str, e_str_non, e_len_str, e_len_tup, e_len_lst, e_len_fz, e_len_ref, e_list_tup, e_list_lst, e_list_fz, e_list_ref, e_tupl_tup, e_tupl_lst, e_tupl_ref, e_newT, e_newF, e_run_nm, e_run_tp, e_runs_nil, e_runs_cons, e_tru_bl, e_tru_int, e_tru_str, e_tru_lst, e_tru_tup, e_ty_str, e_ty_lst, e_ty_ref, e_append, e_insert, e_popAt, e_pop0, e_join, e_seqI_val, e_cut_str, e_cut_tup, e_cut_lst, e_cut_fz, e_cut_ref]
    refine ⟨by omega, _, _, h0, rfl, ?_⟩
    simp only [mSeq, mIfS, mAsg, mRet, mRetN, mDrop, mTest, mOp, mC, mVar, mSetI, mNext, mCB, mCons, mNil, mAndT, mOrT, mNotT, mTruT, mIf, mNeg, mOr, mAnd, mNot, mLst, mTup, mBM, mBM0, mPar, mCall, mCallK, mLstRg1, mTupRg1, mRng1, mRng2, mEnum, mZipT, mFor, mSl, mNoPart, mPart, mLc, wipeM, List.set_cons_zero, List.set_cons_succ, startM, List.map_cons, List.map_nil, List.cons_append, List.nil_append, List.length_cons, List.length_nil, List.replicate, List.getElem?_cons_zero, List.getElem?_cons_succ, Option.some.injEq, Nat.reduceSub, Nat.reduceAdd, true_and, exists_eq_left, exists_eq_left', e_ix_tup, e_ix_lst, e_ix_fz, e_ix_ref, e_lo_lst, e_lo_fz, e_lo_ref, e_so_lst, e_so_fz, e_so_tup, e_so_ref, e_hd_lst, e_hd_ref, e_add_int, e_add_str, e_add_tup, e_add_lst, e_sub_int, e_mul_int, e_mul_lst, e_mul_tup, e_mod_int, e_fdv_int, e_pow_int, e_lt_int, e_le_int, e_gt_int, e_ge_int, e_eq_int, e_ne_int, e_eq_str, e_ne_str, e_isN, e_notN, e_isN_non, e_isN_int, e_isN_tup, e_isN_str, e_isN_ref, e_isN_lst, e_abs, e_max2, e_min2, e_int_int, e_int_bl, e_str_int, e_str_str, e_str_non, e_len_str, e_len_tup, e_len_lst, e_len_fz, e_len_ref, e_list_tup, e_list_lst, e_list_fz, e_list_ref, e_tupl_tup, e_tupl_lst, e_tupl_ref, e_newT, e_newF, e_run_nm, e_run_tp, e_runs_nil, e_runs_cons, e_tru_bl, e_tru_int, e_tru_str, e_tru_lst, e_tru_tup, e_ty_str, e_ty_lst, e_ty_ref, e_append, e_insert, e_popAt, e_pop0, e_join, e_seqI_val, e_cut_str, e_cut_tup, e_cut_lst, e_cut_fz, e_cut_ref]
    refine ⟨cdiv_b b1 b2, _, _, h0, rfl, less_here (kq _ _ (Int.emod_nonneg _ (by omega)) (Int.emod_lt_of_pos _ (by omega)) ⟨cells, k, _, rfl, hc, k0, by omega⟩)⟩
  · simp only [hr, decide_false, b_draw_5, b_draw_6, b_draw_7, mSeq, mIfS, mAsg, mRet, mRetN, mDrop, mTest, mOp, mC, mVar, mSetI, mNext, mCB, mCons, mNil, mAndT, mOrT, mNotT, mTruT, mIf, mNeg, mOr, mAnd, mNot, mLst, mTup, mBM, mBM0, mPar, mCall, mCallK, mLstRg1, mTupRg1, mRng1, mRng2, mEnum, mZipT, mFor, mSl, mNoPart, mPart, mLc, wipeM, List.set_cons_zero, List.set_cons_succ, startM, List.map_cons, List.map_nil, List.cons_append, List.nil_append, List.length_cons, List.length_nil, List.replicate, List.getElem?_cons_zero, List.getElem?_cons_succ, Option.some.injEq, Nat.reduceSub, Nat.reduceAdd, true_and, exists_eq_left, exists_eq_left', e_ix_tup, e_ix_lst, e_ix_fz, e_ix_ref, e_lo_lst, e_lo_fz, e_lo_ref, e_so_lst, e_so_fz, e_so_tup, e_so_ref, e_hd_lst, e_hd_ref, e_add_int, e_add_str, e_add_tup, e_add_lst, e_sub_int, e_mul_int, e_mul_lst, e_mul_tup, e_mod_int, e_fdv_int, e_pow_int, e_lt_int, e_le_int, e_gt_int, e_ge_int, e_eq_int, e_ne_int, e_eq_str, e_ne_str, e_isN, e_notN, e_isN_non, e_isN_int, e_isN_tup, e_isN_str, e_isN_ref, e_isN_lst, e_abs, e_max2, e_min2, e_int_int, e_int_bl, e_str_int, e_str_str, e_str_non, e_len_str, e_len_tup, e_len_lst, e_len_fz, e_len_ref, e_list_tup, e_list_lst, e_list_fz, e_list_ref, e_tupl_tup, e_tupl_lst, e_tupl_ref, e_newT, e_newF, e_run_nm, e_run_tp, e_runs_nil, e_runs_cons, e_tru_bl, e_tru_int, e_tru_str, e_tru_lst, e_tru_tup, e_ty_str, e_ty_lst, e_ty_ref, e_append, e_insert, e_popAt, e_pop0, e_join, e_seqI_val, e_cut_str, e_cut_tup, e_cut_lst, e_cut_fz, e_cut_ref]
    refine ⟨_, _, h0, rfl, _, _, h0, rfl, ?_⟩
    simp only [mSeq, mIfS, mAsg, mRet, mRetN, mDrop, mTest, mOp, mC, mVar, mSetI, mNext, mCB, mCons, mNil, mAndT, mOrT, mNotT, mTruT, mIf, mNeg, mOr, mAnd, mNot, mLst, mTup, mBM, mBM0, mPar, mCall, mCallK, mLstRg1, mTupRg1, mRng1, mRng2, mEnum, mZipT, mFor, mSl, mNoPart, mPart, mLc, wipeM, List.set_cons_zero, List.set_cons_succ, startM, List.map_cons, List.map_nil, List.cons_append, List.nil_append, List.length_cons, List.length_nil, List.replicate, List.getElem?_cons_zero, List.getElem?_cons_succ, Option.some.injEq, Nat.reduceSub, Nat.reduceAdd, true_and, exists_eq_left, exists_eq_left', e_ix_tup, e_ix_lst, e_ix_fz, e_ix_ref, e_lo_lst, e_lo_fz, e_lo_ref, e_so_lst, e_so_fz, e_so_tup, e_so_ref, e_hd_lst, e_hd_ref, e_add_int, e_add_str, e_add_tup, e_add_lst, e_sub_int, e_mul_int, e_mul_lst, e_mul_tup, e_mod_int, e_fdv_int, e_pow_int, e_lt_int, e_le_int, e_gt_int, e_ge_int, e_eq_int, e_ne_int, e_eq_str, e_ne_str, e_isN, e_notN, e_isN_non, e_isN_int, e_isN_tup, e_isN_str, e_isN_ref, e_isN_lst, e_abs, e_max2, e_min2, e_int_int, e_int_bl, e_str_int, e_str_str, e_str_non, e_len_str, e_len_tup, e_len_lst, e_len_fz, e_len_ref, e_list_tup, e_list_lst, e_list_fz, e_list_ref, e_tupl_tup, e_tupl_lst, e_tupl_ref, e_newT, e_newF, e_run_nm, e_run_tp, e_runs_nil, e_runs_cons, e_tru_bl, e_tru_int, e_tru_str, e_tru_lst, e_tru_tup, e_ty_str, e_ty_lst, e_ty_ref, e_append, e_insert, e_popAt, e_pop0, e_join, e_seqI_val, e_cut_str, e_cut_tup, e_cut_lst, e_cut_fz, e_cut_ref]
    refine ⟨cmul_l (by decide) (by decide), ?_⟩
    have h1 : put G a (.lst [.lst (cells.map D.int), .int (k + 1), .int rest]) a = some (PenO cells (k + 1) rest) := put_same
    have hput : ∀ o, put (put G a (.lst [.lst (cells.map D.int), .int (k + 1), .int rest])) a o = put G a o := fun o => put_put
    refine (show b_draw_8 _ _ (put G a (.lst [.lst (cells.map D.int), .int (k + 1), .int rest])) from ?_)
    revert h1 hput
    generalize put G a (.lst [.lst (cells.map D.int), .int (k + 1), .int rest]) = G1
    intro h1 hput
    have tail : ∀ c : Int, b_draw_10 { nx := fun x G' => less q D.non G', rt := less q } [some (.ref a), some (.int b), none, some (.int k), some (.int c), none, none] G1 := by
      intro c
      have mix : b_draw_14 { nx := fun x G' => less q D.non G', rt := less q } [some (.ref a), some (.int b), none, some (.int k), some (.int c), none, none] G1 := by
        simp only [b_draw_14, b_draw_15, b_draw_16, mSeq, mIfS, mAsg, mRet, mRetN, mDrop, mTest, mOp, mC, mVar, mSetI, mNext, mCB, mCons, mNil, mAndT, mOrT, mNotT, mTruT, mIf, mNeg, mOr, mAnd, mNot, mLst, mTup, mBM, mBM0, mPar, mCall, mCallK, mLstRg1, mTupRg1, mRng1, mRng2, mEnum, mZipT, mFor, mSl, mNoPart, mPart, mLc, wipeM, List.set_cons_zero, List.set_cons_succ, startM, List.map_cons, List.map_nil, List.cons_append, List.nil_append, List.length_cons, List.length_nil, List.replicate, List.getElem?_cons_zero, List.getElem?_cons_succ, Option.some.injEq, Nat.reduceSub, Nat.reduceAdd, true_and, exists_eq_left, exists_eq_left', e_ix_tup, e_ix_lst, e_ix_fz, e_ix_ref, e_lo_lst, e_lo_fz, e_lo_ref, e_so_lst, e_so_fz, e_so_tup, e_so_ref, e_hd_lst, e_hd_ref, e_add_int, e_add_str, e_add_tup, e_add_lst, e_sub_int, e_mul_int, e_mul_lst, e_mul_tup, e_mod_int, e_fdv_int, e_pow_int, e_lt_int, e_le_int, e_gt_int, e_ge_int, e_eq_int, e_ne_int, e_eq_str, e_ne_str, e_isN, e_notN, e_isN_non, e_isN_int, e_isN_tup, e_isN_str, e_isN_ref, e_isN_lst, e_abs, e_max2, e_min2, e_int_int, e_int_bl, e_str_int, e_str_str, e_str_non, e_len_str, e_len_tup, e_len_lst, e_len_fz, e_len_ref, e_list_tup, e_list_lst, e_list_fz, e_list_ref, e_tupl_tup, e_tupl_lst, e_tupl_ref, e_newT, e_newF, e_run_nm, e_run_tp, e_runs_nil, e_runs_cons, e_tru_bl, e_tru_int, e_tru_str, e_tru_lst, e_tru_tup, e_ty_str, e_ty_lst, e_ty_ref, e_append, e_insert, e_popAt, e_pop0, e_join, e_seqI_val, e_cut_str, e_cut_tup, e_cut_lst, e_cut_fz, e_cut_ref]
        have hk : k ≤ 100000 := by omega
        have hkk : 0 ≤ 6007 * k * k ∧ 6007 * k * k ≤ 60070000000000 := by
          refine ⟨Int.mul_nonneg (by omega) k0, ?_⟩
          have h2 : 6007 * k * k ≤ 600700000 * k := Int.mul_le_mul_of_nonneg_right (by omega) k0
          omega
        have hcm : 0 ≤ c % 2147483587 ∧ c % 2147483587 < 2147483587 := ⟨Int.emod_nonneg _ (by decide), Int.emod_lt_of_pos _ (by decide)⟩
        refine ⟨by decide, cmul_l (by decide) (by decide), cmul_l (by decide) (by decide), cmul_r (by omega) (by omega), cpow_lt (by omega) (by omega) (by decide) (by decide), by decide, cmul_l (by decide) (by decide), ?_⟩
        generalize hm1 : (c % 2147483587 + 40009 * k + 6007 * k * k + 13) ^ (5 : Int).toNat % 2147483647 = m1
        have hm2 : 0 ≤ m1 ∧ m1 < 2147483647 := by rw [← hm1]; exact ⟨Int.emod_nonneg _ (by decide), Int.emod_lt_of_pos _ (by decide)⟩
        have hp : 0 ≤ m1 * (2 * k + 17) ∧ m1 * (2 * k + 17) ≤ 2147483647 * 200017 := by
          refine ⟨Int.mul_nonneg hm2.1 (by omega), Int.mul_le_mul (by omega) (by omega) (by omega) (by decide)⟩
        refine ⟨cmul_l (by omega) (by omega), cpow_lt (by omega) (by omega) (by decide) (by decide), by decide, ⟨by decide, by decide⟩, by omega, ?_⟩
        refine less_here ?_
        have hh := kq ((m1 * (2 * k + 17) + 90011) ^ (3 : Int).toNat % 2147483579 / 64 % b) (PenO cells (k + 1) rest) (Int.emod_nonneg _ (by omega)) (Int.emod_lt_of_pos _ (by omega)) ⟨cells, k + 1, rest, rfl, hc, by omega, by omega⟩
        rw [← hput] at hh
        have e : put G1 a (PenO cells (k + 1) rest) = G1 := by
          funext x
          by_cases hx : x = a
          · subst hx; rw [put_same, h1]
          · rw [put_ne hx]
        rw [e] at hh
        exact hh
      have big : b_draw_11 { nx := b_draw_14 { nx := fun x G' => less q D.non G', rt := less q }, rt := less q } [some (.ref a), some (.int b), none, some (.int k), some (.int c), none, none] G1 := by
        simp only [b_draw_11, b_draw_12, b_draw_13, mSeq, mIfS, mAsg, mRet, mRetN, mDrop, mTest, mOp, mC, mVar, mSetI, mNext, mCB, mCons, mNil, mAndT, mOrT, mNotT, mTruT, mIf, mNeg, mOr, mAnd, mNot, mLst, mTup, mBM, mBM0, mPar, mCall, mCallK, mLstRg1, mTupRg1, mRng1, mRng2, mEnum, mZipT, mFor, mSl, mNoPart, mPart, mLc, wipeM, List.set_cons_zero, List.set_cons_succ, startM, List.map_cons, List.map_nil, List.cons_append, List.nil_append, List.length_cons, List.length_nil, List.replicate, List.getElem?_cons_zero, List.getElem?_cons_succ, Option.some.injEq, Nat.reduceSub, Nat.reduceAdd, true_and, exists_eq_left, exists_eq_left', e_ix_tup, e_ix_lst, e_ix_fz, e_ix_ref, e_lo_lst, e_lo_fz, e_lo_ref, e_so_lst, e_so_fz, e_so_tup, e_so_ref, e_hd_lst, e_hd_ref, e_add_int, e_add_str, e_add_tup, e_add_lst, e_sub_int, e_mul_int, e_mul_lst, e_mul_tup, e_mod_int, e_fdv_int, e_pow_int, e_lt_int, e_le_int, e_gt_int, e_ge_int, e_eq_int, e_ne_int, e_eq_str, e_ne_str, e_isN, e_notN, e_isN_non, e_isN_int, e_isN_tup, e_isN_str, e_isN_ref, e_isN_lst, e_abs, e_max2, e_min2, e_int_int, e_int_bl, e_str_int, e_str_str, e_str_non, e_len_str, e_len_tup, e_len_lst, e_len_fz, e_len_ref, e_list_tup, e_list_lst, e_list_fz, e_list_ref, e_tupl_tup, e_tupl_lst, e_tupl_ref, e_newT, e_newF, e_run_nm, e_run_tp, e_runs_nil, e_runs_cons, e_tru_bl, e_tru_int, e_tru_str, e_tru_lst, e_tru_tup, e_ty_str, e_ty_lst, e_ty_ref, e_append, e_insert, e_popAt, e_pop0, e_join, e_seqI_val, e_cut_str, e_cut_tup, e_cut_lst, e_cut_fz, e_cut_ref]
        refine ⟨⟨by decide, by decide, by decide⟩, cmul_l (by decide) (by decide), cdiv_b b1 b2, _, _, h1, rfl, by omega, less_here ?_⟩
        rw [show ([D.lst (cells.map D.int), .int (k + 1), .int rest] : List D) = [D.lst (cells.map D.int), .int (k + 1), .int rest] from rfl]
        have hh := kq ((2 * ((if c < 0 then -c else c) - 10 ^ (18 : Int).toNat) + (if decide (c < 0) = true then 1 else 0)) % b) (PenO cells (k + 1) ((2 * ((if c < 0 then -c else c) - 10 ^ (18 : Int).toNat) + (if decide (c < 0) = true then 1 else 0)) / b)) (Int.emod_nonneg _ (by omega)) (Int.emod_lt_of_pos _ (by omega)) ⟨cells, k + 1, _, rfl, hc, by omega, by omega⟩
        rw [← hput] at hh
        exact hh
      simp only [b_draw_10, mSeq, mIfS, mAsg, mRet, mRetN, mDrop, mTest, mOp, mC, mVar, mSetI, mNext, mCB, mCons, mNil, mAndT, mOrT, mNotT, mTruT, mIf, mNeg, mOr, mAnd, mNot, mLst, mTup, mBM, mBM0, mPar, mCall, mCallK, mLstRg1, mTupRg1, mRng1, mRng2, mEnum, mZipT, mFor, mSl, mNoPart, mPart, mLc, wipeM, List.set_cons_zero, List.set_cons_succ, startM, List.map_cons, List.map_nil, List.cons_append, List.nil_append, List.length_cons, List.length_nil, List.replicate, List.getElem?_cons_zero, List.getElem?_cons_succ, Option.some.injEq, Nat.reduceSub, Nat.reduceAdd, true_and, exists_eq_left, exists_eq_left', e_ix_tup, e_ix_lst, e_ix_fz, e_ix_ref, e_lo_lst, e_lo_fz, e_lo_ref, e_so_lst, e_so_fz, e_so_tup, e_so_ref, e_hd_lst, e_hd_ref, e_add_int, e_add_str, e_add_tup, e_add_lst, e_sub_int, e_mul_int, e_mul_lst, e_mul_tup, e_mod_int, e_fdv_int, e_pow_int, e_lt_int, e_le_int, e_gt_int, e_ge_int, e_eq_int, e_ne_int, e_eq_str, e_ne_str, e_isN, e_notN, e_isN_non, e_isN_int, e_isN_tup, e_isN_str, e_isN_ref, e_isN_lst, e_abs, e_max2, e_min2, e_int_int, e_int_bl, e_str_int, e_str_str, e_str_non, e_len_str, e_len_tup, e_len_lst, e_len_fz, e_len_ref, e_list_tup, e_list_lst, e_list_fz, e_list_ref, e_tupl_tup, e_tupl_lst, e_tupl_ref, e_newT, e_newF, e_run_nm, e_run_tp, e_runs_nil, e_runs_cons, e_tru_bl, e_tru_int, e_tru_str, e_tru_lst, e_tru_tup, e_ty_str, e_ty_lst, e_ty_ref, e_append, e_insert, e_popAt, e_pop0, e_join, e_seqI_val, e_cut_str, e_cut_tup, e_cut_lst, e_cut_fz, e_cut_ref]
      refine ⟨_, _, h1, rfl, ?_⟩
      simp only [mSeq, mIfS, mAsg, mRet, mRetN, mDrop, mTest, mOp, mC, mVar, mSetI, mNext, mCB, mCons, mNil, mAndT, mOrT, mNotT, mTruT, mIf, mNeg, mOr, mAnd, mNot, mLst, mTup, mBM, mBM0, mPar, mCall, mCallK, mLstRg1, mTupRg1, mRng1, mRng2, mEnum, mZipT, mFor, mSl, mNoPart, mPart, mLc, wipeM, List.set_cons_zero, List.set_cons_succ, startM, List.map_cons, List.map_nil, List.cons_append, List.nil_append, List.length_cons, List.length_nil, List.replicate, List.getElem?_cons_zero, List.getElem?_cons_succ, Option.some.injEq, Nat.reduceSub, Nat.reduceAdd, true_and, exists_eq_left, exists_eq_left', e_ix_tup, e_ix_lst, e_ix_fz, e_ix_ref, e_lo_lst, e_lo_fz, e_lo_ref, e_so_lst, e_so_fz, e_so_tup, e_so_ref, e_hd_lst, e_hd_ref, e_add_int, e_add_str, e_add_tup, e_add_lst, e_sub_int, e_mul_int, e_mul_lst, e_mul_tup, e_mod_int, e_fdv_int, e_pow_int, e_lt_int, e_le_int, e_gt_int, e_ge_int, e_eq_int, e_ne_int, e_eq_str, e_ne_str, e_isN, e_notN, e_isN_non, e_isN_int, e_isN_tup, e_isN_str, e_isN_ref, e_isN_lst, e_abs, e_max2, e_min2, e_int_int, e_int_bl, e_str_int, e_str_str, e_str_non, e_len_str, e_len_tup, e_len_lst, e_len_fz, e_len_ref, e_list_tup, e_list_lst, e_list_fz, e_list_ref, e_tupl_tup, e_tupl_lst, e_tupl_ref, e_newT, e_newF, e_run_nm, e_run_tp, e_runs_nil, e_runs_cons, e_tru_bl, e_tru_int, e_tru_str, e_tru_lst, e_tru_tup, e_ty_str, e_ty_lst, e_ty_ref, e_append, e_insert, e_popAt, e_pop0, e_join, e_seqI_val, e_cut_str, e_cut_tup, e_cut_lst, e_cut_fz, e_cut_ref]
      by_cases hl : k < ((cells.map D.int).length : Int)
      · simp only [hl, decide_true, mSeq, mIfS, mAsg, mRet, mRetN, mDrop, mTest, mOp, mC, mVar, mSetI, mNext, mCB, mCons, mNil, mAndT, mOrT, mNotT, mTruT, mIf, mNeg, mOr, mAnd, mNot, mLst, mTup, mBM, mBM0, mPar, mCall, mCallK, mLstRg1, mTupRg1, mRng1, mRng2, mEnum, mZipT, mFor, mSl, mNoPart, mPart, mLc, wipeM, List.set_cons_zero, List.set_cons_succ, startM, List.map_cons, List.map_nil, List.cons_append, List.nil_append, List.length_cons, List.length_nil, List.replicate, List.getElem?_cons_zero, List.getElem?_cons_succ, Option.some.injEq, Nat.reduceSub, Nat.reduceAdd, true_and, exists_eq_left, exists_eq_left', e_ix_tup, e_ix_lst, e_ix_fz, e_ix_ref, e_lo_lst, e_lo_fz, e_lo_ref, e_so_lst, e_so_fz, e_so_tup, e_so_ref, e_hd_lst, e_hd_ref, e_add_int, e_add_str, e_add_tup, e_add_lst, e_sub_int, e_mul_int, e_mul_lst, e_mul_tup, e_mod_int, e_fdv_int, e_pow_int, e_lt_int, e_le_int, e_gt_int, e_ge_int, e_eq_int, e_ne_int, e_eq_str, e_ne_str, e_isN, e_notN, e_isN_non, e_isN_int, e_isN_tup, e_isN_str, e_isN_ref, e_isN_lst, e_abs, e_max2, e_min2, e_int_int, e_int_bl, e_str_int, e_str_str, e_str_non, e_len_str, e_len_tup, e_len_lst, e_len_fz, e_len_ref, e_list_tup, e_list_lst, e_list_fz, e_list_ref, e_tupl_tup, e_tupl_lst, e_tupl_ref, e_newT, e_newF, e_run_nm, e_run_tp, e_runs_nil, e_runs_cons, e_tru_bl, e_tru_int, e_tru_str, e_tru_lst, e_tru_tup, e_ty_str, e_ty_lst, e_ty_ref, e_append, e_insert, e_popAt, e_pop0, e_join, e_seqI_val, e_cut_str, e_cut_tup, e_cut_lst, e_cut_fz, e_cut_ref]
        refine ⟨⟨by decide, by decide, by decide⟩, ?_⟩
        by_cases hb : (10 : Int) ^ (18 : Int).toNat ≤ if c < 0 then -c else c
        · simp only [hb, decide_true]; exact big
        · simp only [hb, decide_false]; exact mix
      · simp only [hl, decide_false]; exact mix
    simp only [b_draw_8, mSeq, mIfS, mAsg, mRet, mRetN, mDrop, mTest, mOp, mC, mVar, mSetI, mNext, mCB, mCons, mNil, mAndT, mOrT, mNotT, mTruT, mIf, mNeg, mOr, mAnd, mNot, mLst, mTup, mBM, mBM0, mPar, mCall, mCallK, mLstRg1, mTupRg1, mRng1, mRng2, mEnum, mZipT, mFor, mSl, mNoPart, mPart, mLc, wipeM, List.set_cons_zero, List.set_cons_succ, startM, List.map_cons, List.map_nil, List.cons_append, List.nil_append, List.length_cons, List.length_nil, List.replicate, List.getElem?_cons_zero, List.getElem?_cons_succ, Option.some.injEq, Nat.reduceSub, Nat.reduceAdd, true_and, exists_eq_left, exists_eq_left', e_ix_tup, e_ix_lst, e_ix_fz, e_ix_ref, e_lo_lst, e_lo_fz, e_lo_ref, e_so_lst, e_so_fz, e_so_tup, e_so_ref, e_hd_lst, e_hd_ref, e_add_int, e_add_str, e_add_tup, e_add_lst, e_sub_int, e_mul_int, e_mul_lst, e_mul_tup, e_mod_int, e_fdv_int, e_pow_int, e_lt_int, e_le_int, e_gt_int, e_ge_int, e_eq_int, e_ne_int, e_eq_str, e_ne_str, e_isN, e_notN, e_isN_non, e_isN_int, e_isN_tup, e_isN_str, e_isN_ref, e_isN_lst, e_abs, e_max2, e_min2, e_int_int, e_int_bl, e_str_int, e_str_str, e_str_non, e_len_str, e_len_tup, e_len_lst, e_len_fz, e_len_ref, e_list_tup, e_list_lst, e_list_fz, e_list_ref, e_tupl_tup, e_tupl_lst, e_tupl_ref, e_newT, e_newF, e_run_nm, e_run_tp, e_runs_nil, e_runs_cons, e_tru_bl, e_tru_int, e_tru_str, e_tru_lst, e_tru_tup, e_ty_str, e_ty_lst, e_ty_ref, e_append, e_insert, e_popAt, e_pop0, e_join, e_seqI_val, e_cut_str, e_cut_tup, e_cut_lst, e_cut_fz, e_cut_ref]
    refine ⟨_, _, h1, rfl, by decide, ?_⟩
    refine ne_val rfl ?_ rfl ?_ ?_ (.inl rfl) (.inl rfl) ?_
    · exact okDs_all fun d hd => by obtain ⟨i, _, rfl⟩ := List.mem_map.mp hd; rfl
    · exact Nat.le_trans (Nat.succ_le_succ (deps_all (n := 0) fun d hd => by obtain ⟨i, _, rfl⟩ := List.mem_map.mp hd; exact Nat.le_refl _)) (by decide)
    · decide
    cases cells with
    | nil => exact tail _
    | cons c0 cs =>
      show b_draw_9 { nx := b_draw_10 { nx := fun x G' => less q D.non G', rt := less q }, rt := less q } [some (D.ref a), some (D.int b), none, some (D.int k), some (D.int (53003 * k + 61)), none, none] G1
      simp only [b_draw_9, mSeq, mIfS, mAsg, mRet, mRetN, mDrop, mTest, mOp, mC, mVar, mSetI, mNext, mCB, mCons, mNil, mAndT, mOrT, mNotT, mTruT, mIf, mNeg, mOr, mAnd, mNot, mLst, mTup, mBM, mBM0, mPar, mCall, mCallK, mLstRg1, mTupRg1, mRng1, mRng2, mEnum, mZipT, mFor, mSl, mNoPart, mPart, mLc, wipeM, List.set_cons_zero, List.set_cons_succ, startM, List.map_cons, List.map_nil, List.cons_append, List.nil_append, List.length_cons, List.length_nil, List.replicate, List.getElem?_cons_zero, List.getElem?_cons_succ, Option.some.injEq, Nat.reduceSub, Nat.reduceAdd, true_and, exists_eq_left, exists_eq_left', e_ix_tup, e_ix_lst, e_ix_fz, e_ix_ref, e_lo_lst, e_lo_fz, e_lo_ref, e_so_lst, e_so_fz, e_so_tup, e_so_ref, e_hd_lst, e_hd_ref, e_add_int, e_add_str, e_add_tup, e_add_lst, e_sub_int, e_mul_int, e_mul_lst, e_mul_tup, e_mod_int, e_fdv_int, e_pow_int, e_lt_int, e_le_int, e_gt_int, e_ge_int, e_eq_int, e_ne_int, e_eq_str, e_ne_str, e_isN, e_notN, e_isN_non, e_isN_int, e_isN_tup, e_isN_str, e_isN_ref, e_isN_lst, e_abs, e_max2, e_min2, e_int_int, e_int_bl, e_str_int, e_str_str, e_str_non, e_len_str, e_len_tup, e_len_lst, e_len_fz, e_len_ref, e_list_tup, e_list_lst, e_list_fz, e_list_ref, e_tupl_tup, e_tupl_lst, e_tupl_ref, e_newT, e_newF, e_run_nm, e_run_tp, e_runs_nil, e_runs_cons, e_tru_bl, e_tru_int, e_tru_str, e_tru_lst, e_tru_tup, e_ty_str, e_ty_lst, e_ty_ref, e_append, e_insert, e_popAt, e_pop0, e_join, e_seqI_val, e_cut_str, e_cut_tup, e_cut_lst, e_cut_fz, e_cut_ref]
      refine ⟨_, _, h1, rfl, _, _, h1, rfl, ?_⟩
      simp only [mSeq, mIfS, mAsg, mRet, mRetN, mDrop, mTest, mOp, mC, mVar, mSetI, mNext, mCB, mCons, mNil, mAndT, mOrT, mNotT, mTruT, mIf, mNeg, mOr, mAnd, mNot, mLst, mTup, mBM, mBM0, mPar, mCall, mCallK, mLstRg1, mTupRg1, mRng1, mRng2, mEnum, mZipT, mFor, mSl, mNoPart, mPart, mLc, wipeM, List.set_cons_zero, List.set_cons_succ, startM, List.map_cons, List.map_nil, List.cons_append, List.nil_append, List.length_cons, List.length_nil, List.replicate, List.getElem?_cons_zero, List.getElem?_cons_succ, Option.some.injEq, Nat.reduceSub, Nat.reduceAdd, true_and, exists_eq_left, exists_eq_left', e_ix_tup, e_ix_lst, e_ix_fz, e_ix_ref, e_lo_lst, e_lo_fz, e_lo_ref, e_so_lst, e_so_fz, e_so_tup, e_so_ref, e_hd_lst, e_hd_ref, e_add_int, e_add_str, e_add_tup, e_add_lst, e_sub_int, e_mul_int, e_mul_lst, e_mul_tup, e_mod_int, e_fdv_int, e_pow_int, e_lt_int, e_le_int, e_gt_int, e_ge_int, e_eq_int, e_ne_int, e_eq_str, e_ne_str, e_isN, e_notN, e_isN_non, e_isN_int, e_isN_tup, e_isN_str, e_isN_ref, e_isN_lst, e_abs, e_max2, e_min2, e_int_int, e_int_bl, e_str_int, e_str_str, e_str_non, e_len_str, e_len_tup, e_len_lst, e_len_fz, e_len_ref, e_list_tup, e_list_lst, e_list_fz, e_list_ref, e_tupl_tup, e_tupl_lst, e_tupl_ref, e_newT, e_newF, e_run_nm, e_run_tp, e_runs_nil, e_runs_cons, e_tru_bl, e_tru_int, e_tru_str, e_tru_lst, e_tru_tup, e_ty_str, e_ty_lst, e_ty_ref, e_append, e_insert, e_popAt, e_pop0, e_join, e_seqI_val, e_cut_str, e_cut_tup, e_cut_lst, e_cut_fz, e_cut_ref]
      have hlen : (0 : Int) < ((((c0 :: cs).map D.int).length : Nat) : Int) := by rw [List.length_map, List.length_cons]; omega
      obtain ⟨w, hw, hm', _⟩ := at_in (xs := (c0 :: cs).map D.int) (i := k % (((c0 :: cs).map D.int).length : Nat)) (Int.emod_nonneg _ (by omega)) (Int.emod_lt_of_pos _ hlen)
      obtain ⟨c, _, rfl⟩ := List.mem_map.mp hm'
      refine ⟨?_, _, _, rfl, hw, ?_⟩
      · exact hlen
      · exact tail c
end Q82

set_option maxRecDepth 100000
namespace Q82
open PySem PySem.Spec L2 ML
open PyProof.Rows hiding St
theorem draw_at {a : Addr} {b : Int} {m : Nat} {o : MO} {G : Gp} {q : MK} {E : MX} (hG : G a = some o) (hp : Pen m o) (hm : m ≤ 100000) (b1 : 1 ≤ b) (b2 : b ≤ 10 ^ 30)
    (h : ∀ r o', 0 ≤ r → r < b → Pen (m + 1) o' → q (.int r) (put G a o')) : p_draw (.ref a) (.int b) G q := ⟨a, b, m, o, rfl, rfl, b1, b2, hG, hp, hm, h⟩
theorem sub_of {G G' : Gp} {a : Addr} {o : MO} (h1 : G' a = some o) (h2 : ∀ b u, b ≠ a → G b = some u → G' b = some u) : Sub (put G a o) G' := fun b u e => by
  by_cases hb : b = a
  · subst hb; rw [put_same] at e; cases e; exact h1
  · rw [put_ne hb] at e; exact h2 b u hb e
theorem rng_at {lo : Int} {n i : Nat} {w : D} (h : (rng lo n)[i]? = some w) : i < n ∧ w = .int (lo + (i : Nat)) := by
  rw [rng_get] at h
  split at h
  · cases h; exact ⟨‹_›, rfl⟩
  · cases h
theorem nodup_pop {js ls : List Int} {k : Nat} (h : (js ++ ls).Nodup) (hk : k < ls.length) : ((js ++ [ls[k]]) ++ ls.eraseIdx k).Nodup := by
  have e : ls = ls.take k ++ ls[k] :: ls.drop (k + 1) := by rw [← List.drop_eq_getElem_cons hk, List.take_append_drop]
  have p : ((js ++ [ls[k]]) ++ ls.eraseIdx k).Perm (js ++ ls) := by
    rw [List.eraseIdx_eq_take_drop_succ, List.append_assoc]
    refine List.Perm.append_left js ?_
    have q : (ls.take k ++ ls[k] :: ls.drop (k + 1)).Perm ([ls[k]] ++ (ls.take k ++ ls.drop (k + 1))) := List.perm_middle
    rw [← e] at q
    exact q.symm
  exact p.nodup_iff.mpr h
def upto (n : Nat) : List Int := (List.range n).map fun k : Nat => (k : Int)
theorem upto_nodup (n : Nat) : (upto n).Nodup := List.Pairwise.map _ (fun a b h z => h (Int.ofNat_inj.mp z)) List.nodup_range
theorem rng_upto (n : Nat) : rng 0 n = (upto n).map D.int := by
  unfold rng upto
  rw [List.map_map]
  refine List.map_congr_left fun k _ => ?_
  show D.int (0 + (k : Nat)) = D.int (k : Nat)
  rw [Int.zero_add]
theorem law_order (x0 x1 : D) (G : Gp) (q : MK) (h : p_order x0 x1 G q) : b_order { nx := fun _ G' => less q .non G', rt := less q } (startM ["_law_pen_here", "_law_size_here", "_law_left", "_law_k"] [x0, x1]) G := by
  obtain ⟨a, n, m, o, rfl, rfl, hn, h0, hp, hm, kq⟩ := h
  simp only [b_order, b_order_2, mSeq, mIfS, mAsg, mRet, mRetN, mDrop, mTest, mOp, mC, mVar, mSetI, mNext, mCB, mCons, mNil, mAndT, mOrT, mNotT, mTruT, mIf, mNeg, mOr, mAnd, mNot, mLst, mTup, mBM, mBM0, mPar, mCall, mCallK, mLstRg1, mTupRg1, mRng1, mRng2, mEnum, mZipT, mFor, mSl, mNoPart, mPart, mLc, wipeM, List.set_cons_zero, List.set_cons_succ, startM, List.map_cons, List.map_nil, List.cons_append, List.nil_append, List.length_cons, List.length_nil, List.replicate, List.getElem?_cons_zero, List.getElem?_cons_succ, Option.some.injEq, Nat.reduceSub, Nat.reduceAdd, true_and, exists_eq_left, exists_eq_left', e_ix_tup, e_ix_lst, e_ix_fz, e_ix_ref, e_lo_lst, e_lo_fz, e_lo_ref, e_so_lst, e_so_fz, e_so_tup, e_so_ref, e_hd_lst, e_hd_ref, e_add_int, e_add_str, e_add_tup, e_add_lst, e_sub_int, e_mul_int, e_mul_lst, e_mul_tup, e_mod_int, e_fdv_int, e_pow_int, e_lt_int, e_le_int, e_gt_int, e_ge_int, e_eq_int, e_ne_int, e_eq_str, e_ne_str, e_isN, e_notN, e_isN_non, e_isN_int, e_isN_tup, e_isN_str, e_isN_ref, e_isN_lst, e_abs, e_max2, e_min2, e_int_int, e_int_bl, e_str_int, e_str_str, e_str_non, e_len_str, e_len_tup, e_len_lst, e_len_fz, e_len_ref, e_list_tup, e_list_lst, e_list_fz, e_list_ref, e_tupl_tup, e_tupl_lst, e_tupl_ref, e_newT, e_newF, e_run_nm, e_run_tp, e_runs_nil, e_runs_cons, e_tru_bl, e_tru_int, e_tru_str, e_tru_lst, e_tru_tup, e_ty_str, e_ty_lst, e_ty_ref, e_append, e_insert, e_popAt, e_pop0, e_join, e_seqI_val, e_cut_str, e_cut_tup, e_cut_lst, e_cut_fz, e_cut_ref]
  refine ⟨⟨by omega, by omega, by omega, by omega, by omega⟩, fun p hpf => ?_⟩
  have nap := ne_of_fresh h0 hpf
  refine ⟨⟨by omega, by omega⟩, comp_ind (fun i acc G' => (∃ o', G' a = some o' ∧ Pen (m + i) o') ∧ (∃ js ls : List Int, acc = js.map D.int ∧ G' p = some (.lst (ls.map D.int)) ∧ ls.length = n - i ∧ js.length = i ∧ (js ++ ls).Nodup ∧ NumsIn n (js ++ ls)) ∧ (∀ b u, b ≠ a → G b = some u → G' b = some u)) ?_ ?_ ?_⟩
  · rintro i w acc G' N hw ⟨⟨o', ga, pa⟩, ⟨js, ls, rfl, gp, ll, jl, nd, lin⟩, old⟩ hN
    obtain ⟨hi, rfl⟩ := rng_at hw
    have hi' : i < n := by simpa using hi
    refine ⟨trivial, ?_⟩
    simp only [mSeq, mIfS, mAsg, mRet, mRetN, mDrop, mTest, mOp, mC, mVar, mSetI, mNext, mCB, mCons, mNil, mAndT, mOrT, mNotT, mTruT, mIf, mNeg, mOr, mAnd, mNot, mLst, mTup, mBM, mBM0, mPar, mCall, mCallK, mLstRg1, mTupRg1, mRng1, mRng2, mEnum, mZipT, mFor, mSl, mNoPart, mPart, mLc, wipeM, List.set_cons_zero, List.set_cons_succ, startM, List.map_cons, List.map_nil, List.cons_append, List.nil_append, List.length_cons, List.length_nil, List.replicate, List.getElem?_cons_zero, List.getElem?_cons_succ, Option.some.injEq, Nat.reduceSub, Nat.reduceAdd, true_and, exists_eq_left, exists_eq_left', e_ix_tup, e_ix_lst, e_ix_fz, e_ix_ref, e_lo_lst, e_lo_fz, e_lo_ref, e_so_lst, e_so_fz, e_so_tup, e_so_ref, e_hd_lst, e_hd_ref, e_add_int, e_add_str, e_add_tup, e_add_lst, e_sub_int, e_mul_int, e_mul_lst, e_mul_tup, e_mod_int, e_fdv_int, e_pow_int, e_lt_int, e_le_int, e_gt_int, e_ge_int, e_eq_int, e_ne_int, e_eq_str, e_ne_str, e_isN, e_notN, e_isN_non, e_isN_int, e_isN_tup, e_isN_str, e_isN_ref, e_isN_lst, e_abs, e_max2, e_min2, e_int_int, e_int_bl, e_str_int, e_str_str, e_str_non, e_len_str, e_len_tup, e_len_lst, e_len_fz, e_len_ref, e_list_tup, e_list_lst, e_list_fz, e_list_ref, e_tupl_tup, e_tupl_lst, e_tupl_ref, e_newT, e_newF, e_run_nm, e_run_tp, e_runs_nil, e_runs_cons, e_tru_bl, e_tru_int, e_tru_str, e_tru_lst, e_tru_tup, e_ty_str, e_ty_lst, e_ty_ref, e_append, e_insert, e_popAt, e_pop0, e_join, e_seqI_val, e_cut_str, e_cut_tup, e_cut_lst, e_cut_fz, e_cut_ref]
    refine ⟨⟨_, gp⟩, _, gp, ?_⟩
    rw [e_sp_draw, List.length_map]
    refine draw_at (E := noX) ga pa (by omega) (by omega) (by omega) fun r o2 r0 r1 p2 => ?_
    have hk : r.toNat < ls.length := by omega
    have hg : (ls.map D.int)[r.toNat]? = some (.int ls[r.toNat]) := by rw [List.getElem?_map, List.getElem?_eq_getElem hk]; rfl
    refine ⟨_, r.toNat, _, by rw [put_ne nap.symm]; exact gp, by omega, by omega, seqIx_in r0 (by rw [List.length_map]; omega), hg, by rw [List.length_map]; have := sizeLine_eq; omega, hN _ _ ⟨⟨o2, by rw [put_ne nap, put_same], p2⟩, ⟨js ++ [ls[r.toNat]], ls.eraseIdx r.toNat, ?_, ?_, ?_, ?_, nodup_pop nd hk, ?_⟩, ?_⟩⟩
    · rw [List.map_append]; rfl
    · rw [put_same, List.eraseIdx_eq_take_drop_succ, List.eraseIdx_eq_take_drop_succ, List.map_append, List.map_take, List.map_drop]
    · rw [List.length_eraseIdx, if_pos hk]; omega
    · rw [List.length_append, jl]; rfl
    · intro x hx
      refine lin x ?_
      rcases List.mem_append.mp hx with hx | hx
      · rcases List.mem_append.mp hx with hx | hx
        · exact List.mem_append.mpr (.inl hx)
        · rw [List.mem_singleton] at hx; subst hx; exact List.mem_append.mpr (.inr (List.getElem_mem _))
      · exact List.mem_append.mpr (.inr (List.mem_of_mem_eraseIdx hx))
    · intro b u hb e
      have hbp : b ≠ p := fun z => by subst z; rw [hpf] at e; cases e
      rw [put_ne hbp, put_ne hb]; exact old b u hb e
  · rintro acc G' ⟨⟨o', ga, pa⟩, ⟨js, ls, rfl, gp, ll, jl, nd, lin⟩, old⟩
    rw [rng_len] at pa jl
    refine ⟨trivial, less_of (sub_of ga old) (kq js o' (by simpa using jl) (fun x hx => lin x (List.mem_append.mpr (.inl hx))) (List.nodup_append.mp nd).1 (by simpa using pa))⟩
  · refine ⟨⟨o, by rw [put_ne nap]; exact h0, hp⟩, ⟨[], upto n, rfl, by rw [put_same, ← rng_upto]; simp, by unfold upto; simp, rfl, upto_nodup n, ?_⟩, ?_⟩
    · intro x hx
      unfold upto at hx
      rw [List.nil_append] at hx
      obtain ⟨k, hk, rfl⟩ := List.mem_map.mp hx
      have := List.mem_range.mp hk
      omega
    · intro b u hb e
      have hbp : b ≠ p := fun z => by subst z; rw [hpf] at e; cases e
      rw [put_ne hbp]; exact e
theorem law_size (x0 x1 : D) (G : Gp) (q : MK) (h : p_size x0 x1 G q) : b_size { nx := fun _ G' => less q .non G', rt := less q } (startM ["_law_pen_here", "_law_most", "_law_way"] [x0, x1]) G := by
  obtain ⟨a, n, m, o, rfl, rfl, hn, hn2, h0, hp, hm, kq⟩ := h
  simp only [b_size, b_size_2, e_sp_draw, mSeq, mIfS, mAsg, mRet, mRetN, mDrop, mTest, mOp, mC, mVar, mSetI, mNext, mCB, mCons, mNil, mAndT, mOrT, mNotT, mTruT, mIf, mNeg, mOr, mAnd, mNot, mLst, mTup, mBM, mBM0, mPar, mCall, mCallK, mLstRg1, mTupRg1, mRng1, mRng2, mEnum, mZipT, mFor, mSl, mNoPart, mPart, mLc, wipeM, List.set_cons_zero, List.set_cons_succ, startM, List.map_cons, List.map_nil, List.cons_append, List.nil_append, List.length_cons, List.length_nil, List.replicate, List.getElem?_cons_zero, List.getElem?_cons_succ, Option.some.injEq, Nat.reduceSub, Nat.reduceAdd, true_and, exists_eq_left, exists_eq_left', e_ix_tup, e_ix_lst, e_ix_fz, e_ix_ref, e_lo_lst, e_lo_fz, e_lo_ref, e_so_lst, e_so_fz, e_so_tup, e_so_ref, e_hd_lst, e_hd_ref, e_add_int, e_add_str, e_add_tup, e_add_lst, e_sub_int, e_mul_int, e_mul_lst, e_mul_tup, e_mod_int, e_fdv_int, e_pow_int, e_lt_int, e_le_int, e_gt_int, e_ge_int, e_eq_int, e_ne_int, e_eq_str, e_ne_str, e_isN, e_notN, e_isN_non, e_isN_int, e_isN_tup, e_isN_str, e_isN_ref, e_isN_lst, e_abs, e_max2, e_min2, e_int_int, e_int_bl, e_str_int, e_str_str, e_str_non, e_len_str, e_len_tup, e_len_lst, e_len_fz, e_len_ref, e_list_tup, e_list_lst, e_list_fz, e_list_ref, e_tupl_tup, e_tupl_lst, e_tupl_ref, e_newT, e_newF, e_run_nm, e_run_tp, e_runs_nil, e_runs_cons, e_tru_bl, e_tru_int, e_tru_str, e_tru_lst, e_tru_tup, e_ty_str, e_ty_lst, e_ty_ref, e_append, e_insert, e_popAt, e_pop0, e_join, e_seqI_val, e_cut_str, e_cut_tup, e_cut_lst, e_cut_fz, e_cut_ref]
  refine draw_at (E := noX) h0 hp (by omega) (by omega) (by omega) fun w o1 w0 w1 p1 => ?_
  refine draw_at (E := noX) put_same p1 (by omega) (by omega) (by omega) fun r1 o2 a1 b1 p2 => ?_
  simp only [put_put, e_sp_draw, mSeq, mIfS, mAsg, mRet, mRetN, mDrop, mTest, mOp, mC, mVar, mSetI, mNext, mCB, mCons, mNil, mAndT, mOrT, mNotT, mTruT, mIf, mNeg, mOr, mAnd, mNot, mLst, mTup, mBM, mBM0, mPar, mCall, mCallK, mLstRg1, mTupRg1, mRng1, mRng2, mEnum, mZipT, mFor, mSl, mNoPart, mPart, mLc, wipeM, List.set_cons_zero, List.set_cons_succ, startM, List.map_cons, List.map_nil, List.cons_append, List.nil_append, List.length_cons, List.length_nil, List.replicate, List.getElem?_cons_zero, List.getElem?_cons_succ, Option.some.injEq, Nat.reduceSub, Nat.reduceAdd, true_and, exists_eq_left, exists_eq_left', e_ix_tup, e_ix_lst, e_ix_fz, e_ix_ref, e_lo_lst, e_lo_fz, e_lo_ref, e_so_lst, e_so_fz, e_so_tup, e_so_ref, e_hd_lst, e_hd_ref, e_add_int, e_add_str, e_add_tup, e_add_lst, e_sub_int, e_mul_int, e_mul_lst, e_mul_tup, e_mod_int, e_fdv_int, e_pow_int, e_lt_int, e_le_int, e_gt_int, e_ge_int, e_eq_int, e_ne_int, e_eq_str, e_ne_str, e_isN, e_notN, e_isN_non, e_isN_int, e_isN_tup, e_isN_str, e_isN_ref, e_isN_lst, e_abs, e_max2, e_min2, e_int_int, e_int_bl, e_str_int, e_str_str, e_str_non, e_len_str, e_len_tup, e_len_lst, e_len_fz, e_len_ref, e_list_tup, e_list_lst, e_list_fz, e_list_ref, e_tupl_tup, e_tupl_lst, e_tupl_ref, e_newT, e_newF, e_run_nm, e_run_tp, e_runs_nil, e_runs_cons, e_tru_bl, e_tru_int, e_tru_str, e_tru_lst, e_tru_tup, e_ty_str, e_ty_lst, e_ty_ref, e_append, e_insert, e_popAt, e_pop0, e_join, e_seqI_val, e_cut_str, e_cut_tup, e_cut_lst, e_cut_fz, e_cut_ref]
  refine draw_at (E := noX) put_same p2 (by omega) (by omega) (by omega) fun r2 o3 a2 b2 p3 => ?_
  simp only [put_put, e_sp_draw, mSeq, mIfS, mAsg, mRet, mRetN, mDrop, mTest, mOp, mC, mVar, mSetI, mNext, mCB, mCons, mNil, mAndT, mOrT, mNotT, mTruT, mIf, mNeg, mOr, mAnd, mNot, mLst, mTup, mBM, mBM0, mPar, mCall, mCallK, mLstRg1, mTupRg1, mRng1, mRng2, mEnum, mZipT, mFor, mSl, mNoPart, mPart, mLc, wipeM, List.set_cons_zero, List.set_cons_succ, startM, List.map_cons, List.map_nil, List.cons_append, List.nil_append, List.length_cons, List.length_nil, List.replicate, List.getElem?_cons_zero, List.getElem?_cons_succ, Option.some.injEq, Nat.reduceSub, Nat.reduceAdd, true_and, exists_eq_left, exists_eq_left', e_ix_tup, e_ix_lst, e_ix_fz, e_ix_ref, e_lo_lst, e_lo_fz, e_lo_ref, e_so_lst, e_so_fz, e_so_tup, e_so_ref, e_hd_lst, e_hd_ref, e_add_int, e_add_str, e_add_tup, e_add_lst, e_sub_int, e_mul_int, e_mul_lst, e_mul_tup, e_mod_int, e_fdv_int, e_pow_int, e_lt_int, e_le_int, e_gt_int, e_ge_int, e_eq_int, e_ne_int, e_eq_str, e_ne_str, e_isN, e_notN, e_isN_non, e_isN_int, e_isN_tup, e_isN_str, e_isN_ref, e_isN_lst, e_abs, e_max2, e_min2, e_int_int, e_int_bl, e_str_int, e_str_str, e_str_non, e_len_str, e_len_tup, e_len_lst, e_len_fz, e_len_ref, e_list_tup, e_list_lst, e_list_fz, e_list_ref, e_tupl_tup, e_tupl_lst, e_tupl_ref, e_newT, e_newF, e_run_nm, e_run_tp, e_runs_nil, e_runs_cons, e_tru_bl, e_tru_int, e_tru_str, e_tru_lst, e_tru_tup, e_ty_str, e_ty_lst, e_ty_ref, e_append, e_insert, e_popAt, e_pop0, e_join, e_seqI_val, e_cut_str, e_cut_tup, e_cut_lst, e_cut_fz, e_cut_ref]
  refine draw_at (E := noX) put_same p3 (by omega) (by omega) (by omega) fun r3 o4 a3 b3 p4 => ?_
  simp only [put_put, mSeq, mIfS, mAsg, mRet, mRetN, mDrop, mTest, mOp, mC, mVar, mSetI, mNext, mCB, mCons, mNil, mAndT, mOrT, mNotT, mTruT, mIf, mNeg, mOr, mAnd, mNot, mLst, mTup, mBM, mBM0, mPar, mCall, mCallK, mLstRg1, mTupRg1, mRng1, mRng2, mEnum, mZipT, mFor, mSl, mNoPart, mPart, mLc, wipeM, List.set_cons_zero, List.set_cons_succ, startM, List.map_cons, List.map_nil, List.cons_append, List.nil_append, List.length_cons, List.length_nil, List.replicate, List.getElem?_cons_zero, List.getElem?_cons_succ, Option.some.injEq, Nat.reduceSub, Nat.reduceAdd, true_and, exists_eq_left, exists_eq_left', e_ix_tup, e_ix_lst, e_ix_fz, e_ix_ref, e_lo_lst, e_lo_fz, e_lo_ref, e_so_lst, e_so_fz, e_so_tup, e_so_ref, e_hd_lst, e_hd_ref, e_add_int, e_add_str, e_add_tup, e_add_lst, e_sub_int, e_mul_int, e_mul_lst, e_mul_tup, e_mod_int, e_fdv_int, e_pow_int, e_lt_int, e_le_int, e_gt_int, e_ge_int, e_eq_int, e_ne_int, e_eq_str, e_ne_str, e_isN, e_notN, e_isN_non, e_isN_int, e_isN_tup, e_isN_str, e_isN_ref, e_isN_lst, e_abs, e_max2, e_min2, e_int_int, e_int_bl, e_str_int, e_str_str, e_str_non, e_len_str, e_len_tup, e_len_lst, e_len_fz, e_len_ref, e_list_tup, e_list_lst, e_list_fz, e_list_ref, e_tupl_tup, e_tupl_lst, e_tupl_ref, e_newT, e_newF, e_run_nm, e_run_tp, e_runs_nil, e_runs_cons, e_tru_bl, e_tru_int, e_tru_str, e_tru_lst, e_tru_tup, e_ty_str, e_ty_lst, e_ty_ref, e_append, e_insert, e_popAt, e_pop0, e_join, e_seqI_val, e_cut_str, e_cut_tup, e_cut_lst, e_cut_fz, e_cut_ref]
  refine ⟨by decide, ?_⟩
  have hw : w = 0 ∨ w = 1 ∨ w = 2 ∨ w = 3 := by omega
  have fin : ∀ z : Int, 1 ≤ z → less q (.int (if z < n then z else n)) (put G a o4) := fun z hz => by
    obtain ⟨k, hk⟩ : ∃ k : Nat, (if z < (n : Int) then z else (n : Int)) = (k : Int) := by
      refine ⟨(if z < (n : Int) then z else (n : Int)).toNat, ?_⟩
      split <;> omega
    rw [hk]
    exact less_here (kq k o4 (by split at hk <;> omega) (by split at hk <;> omega) p4)
  rcases hw with rfl | rfl | rfl | rfl
  · exact ⟨_, _, rfl, rfl, fin _ (by omega)⟩
  · exact ⟨_, _, rfl, rfl, fin _ (by omega)⟩
  · exact ⟨_, _, rfl, rfl, fin _ (by omega)⟩
  · exact ⟨_, _, rfl, rfl, fin _ (by omega)⟩
end Q82

set_option maxRecDepth 100000
namespace Q82
open PySem PySem.Spec L2 ML
open PyProof.Rows hiding St
structure LS (G : Gp) (a : Addr) (P : D → Prop) (L m : Nat) (as : List Addr) (G' : Gp) : Prop where
  na : a ∉ as
  nd : as.Nodup
  new : ∀ b ∈ as, G b = none
  rows : RowsAt L P as G'
  pen : ∃ o', G' a = some o' ∧ Pen m o'
  old : ∀ b u, b ≠ a → G b = some u → G' b = some u
theorem RowOk.mono {L L' : Nat} {P : D → Prop} {row : List D} (h : RowOk L P row) (l : L ≤ L') : RowOk L' P row := ⟨Nat.le_trans h.1 l, h.2⟩
theorem RowOk.ins {L : Nat} {P : D → Prop} {row : List D} {x : D} (h : RowOk L P row) (hx : P x) (k : Nat) : RowOk (L + 1) P (row.take k ++ [x] ++ row.drop k) := by
  refine ⟨?_, fun y hy => ?_⟩
  · have := h.1
    rw [List.length_append, List.length_append, List.length_take, List.length_drop, List.length_singleton]; omega
  · rcases List.mem_append.mp hy with hy | hy
    · rcases List.mem_append.mp hy with hy | hy
      · exact h.2 y (List.mem_of_mem_take hy)
      · rw [List.mem_singleton] at hy; subst hy; exact hx
    · exact h.2 y (List.mem_of_mem_drop hy)
section
variable {G G' : Gp} {a b : Addr} {P : D → Prop} {L L' m m' : Nat} {as : List Addr}
theorem LS.mono (s : LS G a P L m as G') (h : L ≤ L') (h2 : m ≤ m') : LS G a P L' m' as G' :=
  ⟨s.na, s.nd, s.new, fun b hb => let ⟨row, e, r⟩ := s.rows b hb; ⟨row, e, r.mono h⟩, let ⟨o, e, p⟩ := s.pen; ⟨o, e, p.mono h2⟩, s.old⟩
theorem LS.draw (s : LS G a P L m as G') {o' : MO} (p : Pen m' o') : LS G a P L m' as (put G' a o') :=
  ⟨s.na, s.nd, s.new, fun b hb => let ⟨row, e, r⟩ := s.rows b hb; ⟨row, by rw [put_ne (fun z => s.na (by subst z; exact hb))]; exact e, r⟩, ⟨o', put_same, p⟩, fun b u hb e => by rw [put_ne hb]; exact s.old b u hb e⟩
theorem LS.row (s : LS G a P L m as G') (hb : b ∈ as) {row : List D} (r : RowOk L' P row) (h : L ≤ L') : LS G a P L' m as (put G' b (.lst row)) := by
  refine ⟨s.na, s.nd, s.new, fun c hc => ?_, ?_, fun c u hc e => ?_⟩
  · by_cases hcb : c = b
    · subst hcb; exact ⟨row, put_same, r⟩
    · obtain ⟨r', e, r2⟩ := s.rows c hc
      exact ⟨r', by rw [put_ne hcb]; exact e, r2.mono h⟩
  · obtain ⟨o, e, p⟩ := s.pen
    exact ⟨o, by rw [put_ne (fun z => s.na (by subst z; exact hb))]; exact e, p⟩
  · have : c ≠ b := fun z => by subst z; rw [s.new _ hb] at e; cases e
    rw [put_ne this]; exact s.old c u hc e
theorem Cov.draw {k : Nat} (s : LS G a P L m as G') (h : Cov k as G') {o' : MO} : Cov k as (put G' a o') := fun v v1 v2 => by
  obtain ⟨b, hb, row, e, hm⟩ := h v v1 v2
  exact ⟨b, hb, row, by rw [put_ne (fun z => s.na (by subst z; exact hb))]; exact e, hm⟩
/-- row.insert(draw(pen, len(row) + 1), x) -/
theorem LS.ins (s : LS G a P L m as G') (hb : b ∈ as) {row : List D} (e : G' b = some (.lst row)) {x : D} (hx : P x) (hl : row.length + 1 ≤ L') (hL : L ≤ L') (h5 : L ≤ 500) (hm : m ≤ 100000) {N : Gp → Prop}
    (h : ∀ G2, LS G a P L' (m + 1) as G2 → (∀ k, Cov k as G' → Cov k as G2) → (∃ row2, G2 b = some (.lst row2) ∧ x ∈ row2 ∧ row2.length = row.length + 1) → (∀ c ∈ as, c ≠ b → G2 c = G' c) → N G2) :
    (∃ xs, G' b = some (.lst xs)) ∧ ∃ ys, G' b = some (.lst ys) ∧ p_draw (.ref a) (.int ((ys.length : Int) + 1)) G' fun r G2 => mInsert (.ref b) [r, x] G2 fun _ G3 => N G3 := by
  have hr : RowOk (L' - 1) P row := by
    obtain ⟨row', e', r⟩ := s.rows b hb
    rw [e] at e'; cases e'
    exact ⟨by omega, r.2⟩
  have hr0 : row.length ≤ 500 := by
    obtain ⟨row', e', r⟩ := s.rows b hb
    rw [e] at e'; cases e'
    exact Nat.le_trans r.1 h5
  refine ⟨⟨row, e⟩, row, e, ?_⟩
  obtain ⟨o, ea, p⟩ := s.pen
  refine draw_at (E := noX) ea p hm (by omega) (by omega) fun k o2 k0 k1 p2 => ?_
  have nab : b ≠ a := fun z => s.na (by subst z; exact hb)
  rw [e_insert]
  have ri := hr.ins hx k.toNat
  rw [show L' - 1 + 1 = L' by omega] at ri
  refine ⟨row, by rw [put_ne nab]; exact e, by have := sizeLine_eq; omega, k0, by omega, h _ ((s.draw p2).row hb ri hL) (fun kk hc v v1 v2 => ?_) ⟨_, put_same, ?_, ?_⟩ fun c hc hcb => ?_⟩
  · obtain ⟨c, hc', row3, e3, hm3⟩ := hc v v1 v2
    by_cases hcb : c = b
    · subst hcb
      rw [e] at e3; cases e3
      refine ⟨c, hc', _, put_same, ?_⟩
      rw [← List.take_append_drop k.toNat row] at hm3
      rcases List.mem_append.mp hm3 with z | z
      · exact List.mem_append.mpr (.inl (List.mem_append.mpr (.inl z)))
      · exact List.mem_append.mpr (.inr z)
    · exact ⟨c, hc', row3, by rw [put_ne hcb, put_ne (fun z => s.na (by subst z; exact hc'))]; exact e3, hm3⟩
  · exact List.mem_append.mpr (.inl (List.mem_append.mpr (.inr (List.mem_singleton.mpr rfl))))
  · rw [List.length_append, List.length_append, List.length_take, List.length_drop, List.length_singleton]; omega
  · rw [put_ne hcb, put_ne (fun z => s.na (by subst z; exact hc))]
end
/-- [[] for k in range(n)] -/
theorem rows_new {G G1 : Gp} {a : Addr} {P : D → Prop} {m n k : Nat} {τ0 : Sl} {q : List D → Gp → Prop} (hn : n ≤ 1000) (hp : ∃ o, G1 a = some o ∧ Pen m o) (old : ∀ b u, b ≠ a → G b = some u → G1 b = some u)
    (h : ∀ as G', as.length = n → LS G a P 0 m as G' → q (as.map D.ref) G') : mComp (fun _ => True) (.nm k) mYes (mLst true mNil) τ0 (rng 0 ((n : Int)).toNat) [] G1 q := by
  refine comp_ind (fun i acc G' => ∃ as, acc = as.map D.ref ∧ as.length = i ∧ LS G a P 0 m as G') ?_ ?_ ?_
  · rintro i w acc G' N hw ⟨as, rfl, hl, s⟩ hN
    obtain ⟨hi, rfl⟩ := rng_at hw
    refine ⟨trivial, ?_⟩
    simp only [mYes, mSeq, mIfS, mAsg, mRet, mRetN, mDrop, mTest, mOp, mC, mVar, mSetI, mNext, mCB, mCons, mNil, mAndT, mOrT, mNotT, mTruT, mIf, mNeg, mOr, mAnd, mNot, mLst, mTup, mBM, mBM0, mPar, mCall, mCallK, mLstRg1, mTupRg1, mRng1, mRng2, mEnum, mZipT, mFor, mSl, mNoPart, mPart, mLc, wipeM, List.set_cons_zero, List.set_cons_succ, startM, List.map_cons, List.map_nil, List.cons_append, List.nil_append, List.length_cons, List.length_nil, List.replicate, List.getElem?_cons_zero, List.getElem?_cons_succ, Option.some.injEq, Nat.reduceSub, Nat.reduceAdd, true_and, exists_eq_left, exists_eq_left', e_ix_tup, e_ix_lst, e_ix_fz, e_ix_ref, e_lo_lst, e_lo_fz, e_lo_ref, e_so_lst, e_so_fz, e_so_tup, e_so_ref, e_hd_lst, e_hd_ref, e_add_int, e_add_str, e_add_tup, e_add_lst, e_sub_int, e_mul_int, e_mul_lst, e_mul_tup, e_mod_int, e_fdv_int, e_pow_int, e_lt_int, e_le_int, e_gt_int, e_ge_int, e_eq_int, e_ne_int, e_eq_str, e_ne_str, e_isN, e_notN, e_isN_non, e_isN_int, e_isN_tup, e_isN_str, e_isN_ref, e_isN_lst, e_abs, e_max2, e_min2, e_int_int, e_int_bl, e_str_int, e_str_str, e_str_non, e_len_str, e_len_tup, e_len_lst, e_len_fz, e_len_ref, e_list_tup, e_list_lst, e_list_fz, e_list_ref, e_tupl_tup, e_tupl_lst, e_tupl_ref, e_newT, e_newF, e_run_nm, e_run_tp, e_runs_nil, e_runs_cons, e_tru_bl, e_tru_int, e_tru_str, e_tru_lst, e_tru_tup, e_ty_str, e_ty_lst, e_ty_ref, e_append, e_insert, e_popAt, e_pop0, e_join, e_seqI_val, e_cut_str, e_cut_tup, e_cut_lst, e_cut_fz, e_cut_ref]
    refine ⟨by have := sizeLine_eq; omega, fun p hpf => ⟨by rw [List.length_map]; have := sizeLine_eq; omega, hN _ _ ⟨as ++ [p], by rw [List.map_append]; rfl, by rw [List.length_append, hl]; rfl, ?_⟩⟩⟩
    have nap : a ≠ p := by obtain ⟨o', e, _⟩ := s.pen; exact ne_of_fresh e hpf
    have hGp : G p = none := by
      cases e : G p with
      | none => rfl
      | some u => rw [s.old p u nap.symm e] at hpf; cases hpf
    refine ⟨fun z => ?_, List.nodup_append.mpr ⟨s.nd, by simp, fun x hx y hy => by rw [List.mem_singleton] at hy; subst hy; rintro rfl; obtain ⟨row, e, _⟩ := s.rows x hx; rw [hpf] at e; cases e⟩, fun b hb => ?_, fun b hb => ?_, ?_, fun b u hb e => ?_⟩
    · rcases List.mem_append.mp z with z | z
      · exact s.na z
      · exact nap (List.mem_singleton.mp z)
    · rcases List.mem_append.mp hb with z | z
      · exact s.new b z
      · rw [List.mem_singleton.mp z]; exact hGp
    · by_cases hbp : b = p
      · subst hbp; exact ⟨[], put_same, Nat.le_refl _, fun _ h => nomatch h⟩
      · rcases List.mem_append.mp hb with z | z
        · obtain ⟨row, e, r⟩ := s.rows b z; exact ⟨row, by rw [put_ne hbp]; exact e, r⟩
        · exact absurd (List.mem_singleton.mp z) hbp
    · obtain ⟨o', e, p'⟩ := s.pen; exact ⟨o', by rw [put_ne nap]; exact e, p'⟩
    · have : b ≠ p := fun z => by subst z; rw [hGp] at e; cases e
      rw [put_ne this]; exact s.old b u hb e
  · rintro acc G' ⟨as, rfl, hl, s⟩
    rw [rng_len] at hl
    exact ⟨trivial, h as G' (by simpa using hl) s⟩
  · exact ⟨[], rfl, rfl, fun h => (nomatch h), List.nodup_nil, fun _ h => (nomatch h), fun _ h => (nomatch h), hp, old⟩
/-- the slots of links -/
def τL (a : Addr) (n : Nat) (way deep : Int) (as : List Addr) (v5 v6 v7 v8 v9 v10 : Option D) : Sl := [some (.ref a), some (.int n), some (.int way), some (.int deep), some (.lst (as.map D.ref)), v5, v6, v7, v8, v9, v10]
theorem at_refs {as : List Addr} {i : Int} (h0 : 0 ≤ i) (h1 : i < as.length) : ∃ b, atI (as.map D.ref) i = some (.ref b) ∧ b ∈ as := by
  obtain ⟨w, hw, hm, _⟩ := at_in (xs := as.map D.ref) h0 (by rw [List.length_map]; exact h1)
  obtain ⟨b, hb, rfl⟩ := List.mem_map.mp hm
  exact ⟨b, hw, hb⟩
theorem law_links (x0 x1 : D) (G : Gp) (q : MK) (h : p_links x0 x1 G q) : b_links { nx := fun _ G' => less q .non G', rt := less q } (startM ["_law_pen_here", "_law_size_here", "_law_way", "_law_deep", "_law_rows", "_law_k", "_law_v", "_law_holder", "_law_row", "_law_a", "_law_b"] [x0, x1]) G := by
  obtain ⟨a, n, m, o, rfl, rfl, hn, hn2, h0, hp, hm, kq⟩ := h
  simp only [b_links, b_links_2, e_sp_draw, mSeq, mIfS, mAsg, mRet, mRetN, mDrop, mTest, mOp, mC, mVar, mSetI, mNext, mCB, mCons, mNil, mAndT, mOrT, mNotT, mTruT, mIf, mNeg, mOr, mAnd, mNot, mLst, mTup, mBM, mBM0, mPar, mCall, mCallK, mLstRg1, mTupRg1, mRng1, mRng2, mEnum, mZipT, mFor, mSl, mNoPart, mPart, mLc, wipeM, List.set_cons_zero, List.set_cons_succ, startM, List.map_cons, List.map_nil, List.cons_append, List.nil_append, List.length_cons, List.length_nil, List.replicate, List.getElem?_cons_zero, List.getElem?_cons_succ, Option.some.injEq, Nat.reduceSub, Nat.reduceAdd, true_and, exists_eq_left, exists_eq_left', e_ix_tup, e_ix_lst, e_ix_fz, e_ix_ref, e_lo_lst, e_lo_fz, e_lo_ref, e_so_lst, e_so_fz, e_so_tup, e_so_ref, e_hd_lst, e_hd_ref, e_add_int, e_add_str, e_add_tup, e_add_lst, e_sub_int, e_mul_int, e_mul_lst, e_mul_tup, e_mod_int, e_fdv_int, e_pow_int, e_lt_int, e_le_int, e_gt_int, e_ge_int, e_eq_int, e_ne_int, e_eq_str, e_ne_str, e_isN, e_notN, e_isN_non, e_isN_int, e_isN_tup, e_isN_str, e_isN_ref, e_isN_lst, e_abs, e_max2, e_min2, e_int_int, e_int_bl, e_str_int, e_str_str, e_str_non, e_len_str, e_len_tup, e_len_lst, e_len_fz, e_len_ref, e_list_tup, e_list_lst, e_list_fz, e_list_ref, e_tupl_tup, e_tupl_lst, e_tupl_ref, e_newT, e_newF, e_run_nm, e_run_tp, e_runs_nil, e_runs_cons, e_tru_bl, e_tru_int, e_tru_str, e_tru_lst, e_tru_tup, e_ty_str, e_ty_lst, e_ty_ref, e_append, e_insert, e_popAt, e_pop0, e_join, e_seqI_val, e_cut_str, e_cut_tup, e_cut_lst, e_cut_fz, e_cut_ref]
  refine draw_at (E := noX) h0 hp (by omega) (by omega) (by omega) fun way o1 w0 w1 p1 => ?_
  refine draw_at (E := noX) put_same p1 (by omega) (by omega) (by omega) fun deep o2 d0 d1 p2 => ?_
  simp only [put_put, b_links_3, mSeq, mIfS, mAsg, mRet, mRetN, mDrop, mTest, mOp, mC, mVar, mSetI, mNext, mCB, mCons, mNil, mAndT, mOrT, mNotT, mTruT, mIf, mNeg, mOr, mAnd, mNot, mLst, mTup, mBM, mBM0, mPar, mCall, mCallK, mLstRg1, mTupRg1, mRng1, mRng2, mEnum, mZipT, mFor, mSl, mNoPart, mPart, mLc, wipeM, List.set_cons_zero, List.set_cons_succ, startM, List.map_cons, List.map_nil, List.cons_append, List.nil_append, List.length_cons, List.length_nil, List.replicate, List.getElem?_cons_zero, List.getElem?_cons_succ, Option.some.injEq, Nat.reduceSub, Nat.reduceAdd, true_and, exists_eq_left, exists_eq_left', e_ix_tup, e_ix_lst, e_ix_fz, e_ix_ref, e_lo_lst, e_lo_fz, e_lo_ref, e_so_lst, e_so_fz, e_so_tup, e_so_ref, e_hd_lst, e_hd_ref, e_add_int, e_add_str, e_add_tup, e_add_lst, e_sub_int, e_mul_int, e_mul_lst, e_mul_tup, e_mod_int, e_fdv_int, e_pow_int, e_lt_int, e_le_int, e_gt_int, e_ge_int, e_eq_int, e_ne_int, e_eq_str, e_ne_str, e_isN, e_notN, e_isN_non, e_isN_int, e_isN_tup, e_isN_str, e_isN_ref, e_isN_lst, e_abs, e_max2, e_min2, e_int_int, e_int_bl, e_str_int, e_str_str, e_str_non, e_len_str, e_len_tup, e_len_lst, e_len_fz, e_len_ref, e_list_tup, e_list_lst, e_list_fz, e_list_ref, e_tupl_tup, e_tupl_lst, e_tupl_ref, e_newT, e_newF, e_run_nm, e_run_tp, e_runs_nil, e_runs_cons, e_tru_bl, e_tru_int, e_tru_str, e_tru_lst, e_tru_tup, e_ty_str, e_ty_lst, e_ty_ref, e_append, e_insert, e_popAt, e_pop0, e_join, e_seqI_val, e_cut_str, e_cut_tup, e_cut_lst, e_cut_fz, e_cut_ref]
  refine ⟨⟨by omega, by omega⟩, rows_new (a := a) (P := RefOk n) (G := G) (by omega) ⟨o2, put_same, p2⟩ (fun b u hb e => by rw [put_ne hb]; exact e) fun as G' hl' s => ?_⟩
  -- the third loop and the end
  have last : ∀ τ G', (∃ v5 v6 v7 v8 v9 v10, τ = τL a n way deep as v5 v6 v7 v8 v9 v10) → LS G a (RefOk n) 39 (m + 900) as G' → Cov n as G' → b_links_16 { nx := fun x G' => less q D.non G', rt := less q } τ G' := by
    rintro τ G' ⟨v5, v6, v7, v8, v9, v10, rfl⟩ s cov
    simp only [b_links_16, τL, mSeq, mIfS, mAsg, mRet, mRetN, mDrop, mTest, mOp, mC, mVar, mSetI, mNext, mCB, mCons, mNil, mAndT, mOrT, mNotT, mTruT, mIf, mNeg, mOr, mAnd, mNot, mLst, mTup, mBM, mBM0, mPar, mCall, mCallK, mLstRg1, mTupRg1, mRng1, mRng2, mEnum, mZipT, mFor, mSl, mNoPart, mPart, mLc, wipeM, List.set_cons_zero, List.set_cons_succ, startM, List.map_cons, List.map_nil, List.cons_append, List.nil_append, List.length_cons, List.length_nil, List.replicate, List.getElem?_cons_zero, List.getElem?_cons_succ, Option.some.injEq, Nat.reduceSub, Nat.reduceAdd, true_and, exists_eq_left, exists_eq_left', e_ix_tup, e_ix_lst, e_ix_fz, e_ix_ref, e_lo_lst, e_lo_fz, e_lo_ref, e_so_lst, e_so_fz, e_so_tup, e_so_ref, e_hd_lst, e_hd_ref, e_add_int, e_add_str, e_add_tup, e_add_lst, e_sub_int, e_mul_int, e_mul_lst, e_mul_tup, e_mod_int, e_fdv_int, e_pow_int, e_lt_int, e_le_int, e_gt_int, e_ge_int, e_eq_int, e_ne_int, e_eq_str, e_ne_str, e_isN, e_notN, e_isN_non, e_isN_int, e_isN_tup, e_isN_str, e_isN_ref, e_isN_lst, e_abs, e_max2, e_min2, e_int_int, e_int_bl, e_str_int, e_str_str, e_str_non, e_len_str, e_len_tup, e_len_lst, e_len_fz, e_len_ref, e_list_tup, e_list_lst, e_list_fz, e_list_ref, e_tupl_tup, e_tupl_lst, e_tupl_ref, e_newT, e_newF, e_run_nm, e_run_tp, e_runs_nil, e_runs_cons, e_tru_bl, e_tru_int, e_tru_str, e_tru_lst, e_tru_tup, e_ty_str, e_ty_lst, e_ty_ref, e_append, e_insert, e_popAt, e_pop0, e_join, e_seqI_val, e_cut_str, e_cut_tup, e_cut_lst, e_cut_fz, e_cut_ref]
    refine loop_ind (fun i τ G' => ∃ v8, τ = τL a n way deep as v5 v6 v7 v8 v9 v10 ∧ LS G a (RefOk n) 40 (m + 900 + 2 * i) as G' ∧ Cov n as G' ∧ ∀ b ∈ as.drop i, ∃ row, G' b = some (.lst row) ∧ row.length ≤ 39) ?_ ?_ ⟨v8, rfl, s.mono (by omega) (Nat.le_refl _), cov, fun b hb => let ⟨row, e, r⟩ := s.rows b hb; ⟨row, e, r.1⟩⟩
    · rintro i w τ G' N hw ⟨v8, rfl, s, cov, small⟩ hN
      have hi : i < as.length := by rw [← List.length_map (f := D.ref)]; exact (List.getElem?_eq_some_iff.mp hw).1
      have ew : w = .ref as[i] := by
        rw [List.getElem?_map, List.getElem?_eq_getElem hi] at hw
        exact (Option.some.inj hw).symm
      subst ew
      have hmem : as[i] ∈ as := List.getElem_mem _
      have hdrop : as.drop i = as[i] :: as.drop (i + 1) := List.drop_eq_getElem_cons hi
      have nin : as[i] ∉ as.drop (i + 1) := by
        have := s.nd.sublist (List.drop_sublist i as)
        rw [hdrop] at this
        exact (List.nodup_cons.mp this).1
      obtain ⟨row, e, r39⟩ := small as[i] (by rw [hdrop]; exact List.mem_cons_self)
      refine ⟨trivial, ?_⟩
      simp only [τL, b_links_17, e_sp_draw, mSeq, mIfS, mAsg, mRet, mRetN, mDrop, mTest, mOp, mC, mVar, mSetI, mNext, mCB, mCons, mNil, mAndT, mOrT, mNotT, mTruT, mIf, mNeg, mOr, mAnd, mNot, mLst, mTup, mBM, mBM0, mPar, mCall, mCallK, mLstRg1, mTupRg1, mRng1, mRng2, mEnum, mZipT, mFor, mSl, mNoPart, mPart, mLc, wipeM, List.set_cons_zero, List.set_cons_succ, startM, List.map_cons, List.map_nil, List.cons_append, List.nil_append, List.length_cons, List.length_nil, List.replicate, List.getElem?_cons_zero, List.getElem?_cons_succ, Option.some.injEq, Nat.reduceSub, Nat.reduceAdd, true_and, exists_eq_left, exists_eq_left', e_ix_tup, e_ix_lst, e_ix_fz, e_ix_ref, e_lo_lst, e_lo_fz, e_lo_ref, e_so_lst, e_so_fz, e_so_tup, e_so_ref, e_hd_lst, e_hd_ref, e_add_int, e_add_str, e_add_tup, e_add_lst, e_sub_int, e_mul_int, e_mul_lst, e_mul_tup, e_mod_int, e_fdv_int, e_pow_int, e_lt_int, e_le_int, e_gt_int, e_ge_int, e_eq_int, e_ne_int, e_eq_str, e_ne_str, e_isN, e_notN, e_isN_non, e_isN_int, e_isN_tup, e_isN_str, e_isN_ref, e_isN_lst, e_abs, e_max2, e_min2, e_int_int, e_int_bl, e_str_int, e_str_str, e_str_non, e_len_str, e_len_tup, e_len_lst, e_len_fz, e_len_ref, e_list_tup, e_list_lst, e_list_fz, e_list_ref, e_tupl_tup, e_tupl_lst, e_tupl_ref, e_newT, e_newF, e_run_nm, e_run_tp, e_runs_nil, e_runs_cons, e_tru_bl, e_tru_int, e_tru_str, e_tru_lst, e_tru_tup, e_ty_str, e_ty_lst, e_ty_ref, e_append, e_insert, e_popAt, e_pop0, e_join, e_seqI_val, e_cut_str, e_cut_tup, e_cut_lst, e_cut_fz, e_cut_ref]
      obtain ⟨o', ea, p'⟩ := s.pen
      refine draw_at (E := noX) ea p' (by omega) (by omega) (by omega) fun r o2 r0 r1 p2 => ?_
      have s2 := s.draw p2
      have nba : ∀ b ∈ as, b ≠ a := fun b hb z => s.na (by subst z; exact hb)
      have small2 : ∀ b ∈ as.drop (i + 1), ∃ row, put G' a o2 b = some (.lst row) ∧ row.length ≤ 39 := fun b hb => by
        obtain ⟨row, e, h⟩ := small b (by rw [hdrop]; exact List.mem_cons_of_mem _ hb)
        exact ⟨row, by rw [put_ne (nba b (List.mem_of_mem_drop hb))]; exact e, h⟩
      simp only [mSeq, mIfS, mAsg, mRet, mRetN, mDrop, mTest, mOp, mC, mVar, mSetI, mNext, mCB, mCons, mNil, mAndT, mOrT, mNotT, mTruT, mIf, mNeg, mOr, mAnd, mNot, mLst, mTup, mBM, mBM0, mPar, mCall, mCallK, mLstRg1, mTupRg1, mRng1, mRng2, mEnum, mZipT, mFor, mSl, mNoPart, mPart, mLc, wipeM, List.set_cons_zero, List.set_cons_succ, startM, List.map_cons, List.map_nil, List.cons_append, List.nil_append, List.length_cons, List.length_nil, List.replicate, List.getElem?_cons_zero, List.getElem?_cons_succ, Option.some.injEq, Nat.reduceSub, Nat.reduceAdd, true_and, exists_eq_left, exists_eq_left', e_ix_tup, e_ix_lst, e_ix_fz, e_ix_ref, e_lo_lst, e_lo_fz, e_lo_ref, e_so_lst, e_so_fz, e_so_tup, e_so_ref, e_hd_lst, e_hd_ref, e_add_int, e_add_str, e_add_tup, e_add_lst, e_sub_int, e_mul_int, e_mul_lst, e_mul_tup, e_mod_int, e_fdv_int, e_pow_int, e_lt_int, e_le_int, e_gt_int, e_ge_int, e_eq_int, e_ne_int, e_eq_str, e_ne_str, e_isN, e_notN, e_isN_non, e_isN_int, e_isN_tup, e_isN_str, e_isN_ref, e_isN_lst, e_abs, e_max2, e_min2, e_int_int, e_int_bl, e_str_int, e_str_str, e_str_non, e_len_str, e_len_tup, e_len_lst, e_len_fz, e_len_ref, e_list_tup, e_list_lst, e_list_fz, e_list_ref, e_tupl_tup, e_tupl_lst, e_tupl_ref, e_newT, e_newF, e_run_nm, e_run_tp, e_runs_nil, e_runs_cons, e_tru_bl, e_tru_int, e_tru_str, e_tru_lst, e_tru_tup, e_ty_str, e_ty_lst, e_ty_ref, e_append, e_insert, e_popAt, e_pop0, e_join, e_seqI_val, e_cut_str, e_cut_tup, e_cut_lst, e_cut_fz, e_cut_ref]
      by_cases hr : r = 0
      · simp only [hr, decide_true, b_links_18, e_sp_draw, mSeq, mIfS, mAsg, mRet, mRetN, mDrop, mTest, mOp, mC, mVar, mSetI, mNext, mCB, mCons, mNil, mAndT, mOrT, mNotT, mTruT, mIf, mNeg, mOr, mAnd, mNot, mLst, mTup, mBM, mBM0, mPar, mCall, mCallK, mLstRg1, mTupRg1, mRng1, mRng2, mEnum, mZipT, mFor, mSl, mNoPart, mPart, mLc, wipeM, List.set_cons_zero, List.set_cons_succ, startM, List.map_cons, List.map_nil, List.cons_append, List.nil_append, List.length_cons, List.length_nil, List.replicate, List.getElem?_cons_zero, List.getElem?_cons_succ, Option.some.injEq, Nat.reduceSub, Nat.reduceAdd, true_and, exists_eq_left, exists_eq_left', e_ix_tup, e_ix_lst, e_ix_fz, e_ix_ref, e_lo_lst, e_lo_fz, e_lo_ref, e_so_lst, e_so_fz, e_so_tup, e_so_ref, e_hd_lst, e_hd_ref, e_add_int, e_add_str, e_add_tup, e_add_lst, e_sub_int, e_mul_int, e_mul_lst, e_mul_tup, e_mod_int, e_fdv_int, e_pow_int, e_lt_int, e_le_int, e_gt_int, e_ge_int, e_eq_int, e_ne_int, e_eq_str, e_ne_str, e_isN, e_notN, e_isN_non, e_isN_int, e_isN_tup, e_isN_str, e_isN_ref, e_isN_lst, e_abs, e_max2, e_min2, e_int_int, e_int_bl, e_str_int, e_str_str, e_str_non, e_len_str, e_len_tup, e_len_lst, e_len_fz, e_len_ref, e_list_tup, e_list_lst, e_list_fz, e_list_ref, e_tupl_tup, e_tupl_lst, e_tupl_ref, e_newT, e_newF, e_run_nm, e_run_tp, e_runs_nil, e_runs_cons, e_tru_bl, e_tru_int, e_tru_str, e_tru_lst, e_tru_tup, e_ty_str, e_ty_lst, e_ty_ref, e_append, e_insert, e_popAt, e_pop0, e_join, e_seqI_val, e_cut_str, e_cut_tup, e_cut_lst, e_cut_fz, e_cut_ref]
        refine s2.ins hmem (row := row) (by rw [put_ne (nba _ hmem)]; exact e) (L' := 40) (.inl rfl) (by omega) (by omega) (by omega) (by omega) fun G3 s3 c3 _ same => hN _ _ ⟨_, rfl, s3.mono (by omega) (by omega), c3 n (Cov.draw s cov), fun b hb => ?_⟩
        obtain ⟨row, e, h⟩ := small2 b hb
        exact ⟨row, by rw [same b (List.mem_of_mem_drop hb) (fun z => nin (z ▸ hb))]; exact e, h⟩
      · simp only [hr, decide_false, mSeq, mIfS, mAsg, mRet, mRetN, mDrop, mTest, mOp, mC, mVar, mSetI, mNext, mCB, mCons, mNil, mAndT, mOrT, mNotT, mTruT, mIf, mNeg, mOr, mAnd, mNot, mLst, mTup, mBM, mBM0, mPar, mCall, mCallK, mLstRg1, mTupRg1, mRng1, mRng2, mEnum, mZipT, mFor, mSl, mNoPart, mPart, mLc, wipeM, List.set_cons_zero, List.set_cons_succ, startM, List.map_cons, List.map_nil, List.cons_append, List.nil_append, List.length_cons, List.length_nil, List.replicate, List.getElem?_cons_zero, List.getElem?_cons_succ, Option.some.injEq, Nat.reduceSub, Nat.reduceAdd, true_and, exists_eq_left, exists_eq_left', e_ix_tup, e_ix_lst, e_ix_fz, e_ix_ref, e_lo_lst, e_lo_fz, e_lo_ref, e_so_lst, e_so_fz, e_so_tup, e_so_ref, e_hd_lst, e_hd_ref, e_add_int, e_add_str, e_add_tup, e_add_lst, e_sub_int, e_mul_int, e_mul_lst, e_mul_tup, e_mod_int, e_fdv_int, e_pow_int, e_lt_int, e_le_int, e_gt_int, e_ge_int, e_eq_int, e_ne_int, e_eq_str, e_ne_str, e_isN, e_notN, e_isN_non, e_isN_int, e_isN_tup, e_isN_str, e_isN_ref, e_isN_lst, e_abs, e_max2, e_min2, e_int_int, e_int_bl, e_str_int, e_str_str, e_str_non, e_len_str, e_len_tup, e_len_lst, e_len_fz, e_len_ref, e_list_tup, e_list_lst, e_list_fz, e_list_ref, e_tupl_tup, e_tupl_lst, e_tupl_ref, e_newT, e_newF, e_run_nm, e_run_tp, e_runs_nil, e_runs_cons, e_tru_bl, e_tru_int, e_tru_str, e_tru_lst, e_tru_tup, e_ty_str, e_ty_lst, e_ty_ref, e_append, e_insert, e_popAt, e_pop0, e_join, e_seqI_val, e_cut_str, e_cut_tup, e_cut_lst, e_cut_fz, e_cut_ref]
        exact hN _ _ ⟨_, rfl, s2.mono (by omega) (by omega), Cov.draw s cov, small2⟩
    · rintro τ G' ⟨v8, rfl, s, cov, small⟩
      refine ⟨trivial, ?_⟩
      simp only [τL, b_links_19, mSeq, mIfS, mAsg, mRet, mRetN, mDrop, mTest, mOp, mC, mVar, mSetI, mNext, mCB, mCons, mNil, mAndT, mOrT, mNotT, mTruT, mIf, mNeg, mOr, mAnd, mNot, mLst, mTup, mBM, mBM0, mPar, mCall, mCallK, mLstRg1, mTupRg1, mRng1, mRng2, mEnum, mZipT, mFor, mSl, mNoPart, mPart, mLc, wipeM, List.set_cons_zero, List.set_cons_succ, startM, List.map_cons, List.map_nil, List.cons_append, List.nil_append, List.length_cons, List.length_nil, List.replicate, List.getElem?_cons_zero, List.getElem?_cons_succ, Option.some.injEq, Nat.reduceSub, Nat.reduceAdd, true_and, exists_eq_left, exists_eq_left', e_ix_tup, e_ix_lst, e_ix_fz, e_ix_ref, e_lo_lst, e_lo_fz, e_lo_ref, e_so_lst, e_so_fz, e_so_tup, e_so_ref, e_hd_lst, e_hd_ref, e_add_int, e_add_str, e_add_tup, e_add_lst, e_sub_int, e_mul_int, e_mul_lst, e_mul_tup, e_mod_int, e_fdv_int, e_pow_int, e_lt_int, e_le_int, e_gt_int, e_ge_int, e_eq_int, e_ne_int, e_eq_str, e_ne_str, e_isN, e_notN, e_isN_non, e_isN_int, e_isN_tup, e_isN_str, e_isN_ref, e_isN_lst, e_abs, e_max2, e_min2, e_int_int, e_int_bl, e_str_int, e_str_str, e_str_non, e_len_str, e_len_tup, e_len_lst, e_len_fz, e_len_ref, e_list_tup, e_list_lst, e_list_fz, e_list_ref, e_tupl_tup, e_tupl_lst, e_tupl_ref, e_newT, e_newF, e_run_nm, e_run_tp, e_runs_nil, e_runs_cons, e_tru_bl, e_tru_int, e_tru_str, e_tru_lst, e_tru_tup, e_ty_str, e_ty_lst, e_ty_ref, e_append, e_insert, e_popAt, e_pop0, e_join, e_seqI_val, e_cut_str, e_cut_tup, e_cut_lst, e_cut_fz, e_cut_ref]
      rw [List.length_map, hl'] at s
      refine less_here (kq as G' hl' s.na s.nd s.new s.rows cov ?_ s.old)
      obtain ⟨o', e, p'⟩ := s.pen
      exact ⟨o', e, p'.mono (by omega)⟩
  -- the second loop
  have mid : ∀ τ G', (∃ v5 v6 v7 v8 v9 v10, τ = τL a n way deep as v5 v6 v7 v8 v9 v10) → LS G a (RefOk n) 39 (m + 300) as G' → Cov n as G' → b_links_8 { nx := fun x G' => less q D.non G', rt := less q } τ G' := by
    rintro τ G' ⟨v5, v6, v7, v8, v9, v10, rfl⟩ s cov
    simp only [b_links_8, τL, e_sp_draw, mSeq, mIfS, mAsg, mRet, mRetN, mDrop, mTest, mOp, mC, mVar, mSetI, mNext, mCB, mCons, mNil, mAndT, mOrT, mNotT, mTruT, mIf, mNeg, mOr, mAnd, mNot, mLst, mTup, mBM, mBM0, mPar, mCall, mCallK, mLstRg1, mTupRg1, mRng1, mRng2, mEnum, mZipT, mFor, mSl, mNoPart, mPart, mLc, wipeM, List.set_cons_zero, List.set_cons_succ, startM, List.map_cons, List.map_nil, List.cons_append, List.nil_append, List.length_cons, List.length_nil, List.replicate, List.getElem?_cons_zero, List.getElem?_cons_succ, Option.some.injEq, Nat.reduceSub, Nat.reduceAdd, true_and, exists_eq_left, exists_eq_left', e_ix_tup, e_ix_lst, e_ix_fz, e_ix_ref, e_lo_lst, e_lo_fz, e_lo_ref, e_so_lst, e_so_fz, e_so_tup, e_so_ref, e_hd_lst, e_hd_ref, e_add_int, e_add_str, e_add_tup, e_add_lst, e_sub_int, e_mul_int, e_mul_lst, e_mul_tup, e_mod_int, e_fdv_int, e_pow_int, e_lt_int, e_le_int, e_gt_int, e_ge_int, e_eq_int, e_ne_int, e_eq_str, e_ne_str, e_isN, e_notN, e_isN_non, e_isN_int, e_isN_tup, e_isN_str, e_isN_ref, e_isN_lst, e_abs, e_max2, e_min2, e_int_int, e_int_bl, e_str_int, e_str_str, e_str_non, e_len_str, e_len_tup, e_len_lst, e_len_fz, e_len_ref, e_list_tup, e_list_lst, e_list_fz, e_list_ref, e_tupl_tup, e_tupl_lst, e_tupl_ref, e_newT, e_newF, e_run_nm, e_run_tp, e_runs_nil, e_runs_cons, e_tru_bl, e_tru_int, e_tru_str, e_tru_lst, e_tru_tup, e_ty_str, e_ty_lst, e_ty_ref, e_append, e_insert, e_popAt, e_pop0, e_join, e_seqI_val, e_cut_str, e_cut_tup, e_cut_lst, e_cut_fz, e_cut_ref]
    obtain ⟨o', ea, p'⟩ := s.pen
    refine draw_at (E := noX) ea p' (by omega) (by omega) (by omega) fun c o2 c0 c1 p2 => ?_
    have s2 := s.draw p2
    have cov2 : Cov n as (put G' a o2) := Cov.draw s cov
    refine ⟨cmul_l (by decide) (by decide), by decide, ?_⟩
    have go : ∀ t : Int, 0 ≤ t → t ≤ 80 → (-(2 ^ 62) ≤ t ∧ t < 2 ^ 62) ∧ mLoop (fun x => True) (.nm 5) b_links_9 { nx := b_links_16 { nx := fun x G' => less q D.non G', rt := less q }, rt := less q } (rng 0 t.toNat) [some (D.ref a), some (D.int n), some (D.int way), some (D.int deep), some (D.lst (as.map D.ref)), v5, v6, v7, v8, v9, v10] (put G' a o2) := by
      intro t t0 t1
      refine ⟨⟨by omega, by omega⟩, loop_ind (fun i τ G' => (∃ v5 v6 v7 v8 v9 v10, τ = τL a n way deep as v5 v6 v7 v8 v9 v10) ∧ LS G a (RefOk n) 39 (m + 301 + 4 * i) as G' ∧ Cov n as G') ?_ ?_ ⟨⟨_, _, _, _, _, _, rfl⟩, s2, cov2⟩⟩
      · rintro i w τ G' N hw ⟨⟨v5, v6, v7, v8, v9, v10, rfl⟩, s, cov⟩ hN
        obtain ⟨hi, rfl⟩ := rng_at hw
        have hi' : i < 80 := by omega
        refine ⟨trivial, ?_⟩
        -- row = rows[x]; ..
        have tail : ∀ (x y : Int) (M : Nat) (G' : Gp) (v5 v6 v7 v8 : Option D), 0 ≤ x → x < n → 0 ≤ y → y < n → M + 1 ≤ m + 301 + 4 * (i + 1) → LS G a (RefOk n) 39 M as G' → Cov n as G' → b_links_13 { nx := N, rt := less q, bk := b_links_16 { nx := fun x G' => less q D.non G', rt := less q }, ct := N } (τL a n way deep as v5 v6 v7 v8 (some (.int x)) (some (.int y))) G' := by
          intro x y M G' v5 v6 v7 v8 x0 x1 y0 y1 hM s cov
          simp only [b_links_13, b_links_14, τL, mSeq, mIfS, mAsg, mRet, mRetN, mDrop, mTest, mOp, mC, mVar, mSetI, mNext, mCB, mCons, mNil, mAndT, mOrT, mNotT, mTruT, mIf, mNeg, mOr, mAnd, mNot, mLst, mTup, mBM, mBM0, mPar, mCall, mCallK, mLstRg1, mTupRg1, mRng1, mRng2, mEnum, mZipT, mFor, mSl, mNoPart, mPart, mLc, wipeM, List.set_cons_zero, List.set_cons_succ, startM, List.map_cons, List.map_nil, List.cons_append, List.nil_append, List.length_cons, List.length_nil, List.replicate, List.getElem?_cons_zero, List.getElem?_cons_succ, Option.some.injEq, Nat.reduceSub, Nat.reduceAdd, true_and, exists_eq_left, exists_eq_left', e_ix_tup, e_ix_lst, e_ix_fz, e_ix_ref, e_lo_lst, e_lo_fz, e_lo_ref, e_so_lst, e_so_fz, e_so_tup, e_so_ref, e_hd_lst, e_hd_ref, e_add_int, e_add_str, e_add_tup, e_add_lst, e_sub_int, e_mul_int, e_mul_lst, e_mul_tup, e_mod_int, e_fdv_int, e_pow_int, e_lt_int, e_le_int, e_gt_int, e_ge_int, e_eq_int, e_ne_int, e_eq_str, e_ne_str, e_isN, e_notN, e_isN_non, e_isN_int, e_isN_tup, e_isN_str, e_isN_ref, e_isN_lst, e_abs, e_max2, e_min2, e_int_int, e_int_bl, e_str_int, e_str_str, e_str_non, e_len_str, e_len_tup, e_len_lst, e_len_fz, e_len_ref, e_list_tup, e_list_lst, e_list_fz, e_list_ref, e_tupl_tup, e_tupl_lst, e_tupl_ref, e_newT, e_newF, e_run_nm, e_run_tp, e_runs_nil, e_runs_cons, e_tru_bl, e_tru_int, e_tru_str, e_tru_lst, e_tru_tup, e_ty_str, e_ty_lst, e_ty_ref, e_append, e_insert, e_popAt, e_pop0, e_join, e_seqI_val, e_cut_str, e_cut_tup, e_cut_lst, e_cut_fz, e_cut_ref]
          obtain ⟨b, hb, hmem⟩ := at_refs (as := as) x0 (by omega)
          refine ⟨_, _, rfl, hb, ?_⟩
          obtain ⟨row, e, r⟩ := s.rows b hmem
          simp only [mSeq, mIfS, mAsg, mRet, mRetN, mDrop, mTest, mOp, mC, mVar, mSetI, mNext, mCB, mCons, mNil, mAndT, mOrT, mNotT, mTruT, mIf, mNeg, mOr, mAnd, mNot, mLst, mTup, mBM, mBM0, mPar, mCall, mCallK, mLstRg1, mTupRg1, mRng1, mRng2, mEnum, mZipT, mFor, mSl, mNoPart, mPart, mLc, wipeM, List.set_cons_zero, List.set_cons_succ, startM, List.map_cons, List.map_nil, List.cons_append, List.nil_append, List.length_cons, List.length_nil, List.replicate, List.getElem?_cons_zero, List.getElem?_cons_succ, Option.some.injEq, Nat.reduceSub, Nat.reduceAdd, true_and, exists_eq_left, exists_eq_left', e_ix_tup, e_ix_lst, e_ix_fz, e_ix_ref, e_lo_lst, e_lo_fz, e_lo_ref, e_so_lst, e_so_fz, e_so_tup, e_so_ref, e_hd_lst, e_hd_ref, e_add_int, e_add_str, e_add_tup, e_add_lst, e_sub_int, e_mul_int, e_mul_lst, e_mul_tup, e_mod_int, e_fdv_int, e_pow_int, e_lt_int, e_le_int, e_gt_int, e_ge_int, e_eq_int, e_ne_int, e_eq_str, e_ne_str, e_isN, e_notN, e_isN_non, e_isN_int, e_isN_tup, e_isN_str, e_isN_ref, e_isN_lst, e_abs, e_max2, e_min2, e_int_int, e_int_bl, e_str_int, e_str_str, e_str_non, e_len_str, e_len_tup, e_len_lst, e_len_fz, e_len_ref, e_list_tup, e_list_lst, e_list_fz, e_list_ref, e_tupl_tup, e_tupl_lst, e_tupl_ref, e_newT, e_newF, e_run_nm, e_run_tp, e_runs_nil, e_runs_cons, e_tru_bl, e_tru_int, e_tru_str, e_tru_lst, e_tru_tup, e_ty_str, e_ty_lst, e_ty_ref, e_append, e_insert, e_popAt, e_pop0, e_join, e_seqI_val, e_cut_str, e_cut_tup, e_cut_lst, e_cut_fz, e_cut_ref]
          refine ⟨row, e, ?_⟩
          by_cases h38 : (row.length : Int) < 38
          · simp only [h38, decide_true, mSeq, mIfS, mAsg, mRet, mRetN, mDrop, mTest, mOp, mC, mVar, mSetI, mNext, mCB, mCons, mNil, mAndT, mOrT, mNotT, mTruT, mIf, mNeg, mOr, mAnd, mNot, mLst, mTup, mBM, mBM0, mPar, mCall, mCallK, mLstRg1, mTupRg1, mRng1, mRng2, mEnum, mZipT, mFor, mSl, mNoPart, mPart, mLc, wipeM, List.set_cons_zero, List.set_cons_succ, startM, List.map_cons, List.map_nil, List.cons_append, List.nil_append, List.length_cons, List.length_nil, List.replicate, List.getElem?_cons_zero, List.getElem?_cons_succ, Option.some.injEq, Nat.reduceSub, Nat.reduceAdd, true_and, exists_eq_left, exists_eq_left', e_ix_tup, e_ix_lst, e_ix_fz, e_ix_ref, e_lo_lst, e_lo_fz, e_lo_ref, e_so_lst, e_so_fz, e_so_tup, e_so_ref, e_hd_lst, e_hd_ref, e_add_int, e_add_str, e_add_tup, e_add_lst, e_sub_int, e_mul_int, e_mul_lst, e_mul_tup, e_mod_int, e_fdv_int, e_pow_int, e_lt_int, e_le_int, e_gt_int, e_ge_int, e_eq_int, e_ne_int, e_eq_str, e_ne_str, e_isN, e_notN, e_isN_non, e_isN_int, e_isN_tup, e_isN_str, e_isN_ref, e_isN_lst, e_abs, e_max2, e_min2, e_int_int, e_int_bl, e_str_int, e_str_str, e_str_non, e_len_str, e_len_tup, e_len_lst, e_len_fz, e_len_ref, e_list_tup, e_list_lst, e_list_fz, e_list_ref, e_tupl_tup, e_tupl_lst, e_tupl_ref, e_newT, e_newF, e_run_nm, e_run_tp, e_runs_nil, e_runs_cons, e_tru_bl, e_tru_int, e_tru_str, e_tru_lst, e_tru_tup, e_ty_str, e_ty_lst, e_ty_ref, e_append, e_insert, e_popAt, e_pop0, e_join, e_seqI_val, e_cut_str, e_cut_tup, e_cut_lst, e_cut_fz, e_cut_ref]
            have insx : b_links_15 { nx := N, rt := less q, bk := b_links_16 { nx := fun x G' => less q D.non G', rt := less q }, ct := N } [some (D.ref a), some (D.int n), some (D.int way), some (D.int deep), some (D.lst (as.map D.ref)), v5, v6, v7, some (D.ref b), some (D.int x), some (D.int y)] G' := by
              simp only [b_links_15, e_sp_draw, mSeq, mIfS, mAsg, mRet, mRetN, mDrop, mTest, mOp, mC, mVar, mSetI, mNext, mCB, mCons, mNil, mAndT, mOrT, mNotT, mTruT, mIf, mNeg, mOr, mAnd, mNot, mLst, mTup, mBM, mBM0, mPar, mCall, mCallK, mLstRg1, mTupRg1, mRng1, mRng2, mEnum, mZipT, mFor, mSl, mNoPart, mPart, mLc, wipeM, List.set_cons_zero, List.set_cons_succ, startM, List.map_cons, List.map_nil, List.cons_append, List.nil_append, List.length_cons, List.length_nil, List.replicate, List.getElem?_cons_zero, List.getElem?_cons_succ, Option.some.injEq, Nat.reduceSub, Nat.reduceAdd, true_and, exists_eq_left, exists_eq_left', e_ix_tup, e_ix_lst, e_ix_fz, e_ix_ref, e_lo_lst, e_lo_fz, e_lo_ref, e_so_lst, e_so_fz, e_so_tup, e_so_ref, e_hd_lst, e_hd_ref, e_add_int, e_add_str, e_add_tup, e_add_lst, e_sub_int, e_mul_int, e_mul_lst, e_mul_tup, e_mod_int, e_fdv_int, e_pow_int, e_lt_int, e_le_int, e_gt_int, e_ge_int, e_eq_int, e_ne_int, e_eq_str, e_ne_str, e_isN, e_notN, e_isN_non, e_isN_int, e_isN_tup, e_isN_str, e_isN_ref, e_isN_lst, e_abs, e_max2, e_min2, e_int_int, e_int_bl, e_str_int, e_str_str, e_str_non, e_len_str, e_len_tup, e_len_lst, e_len_fz, e_len_ref, e_list_tup, e_list_lst, e_list_fz, e_list_ref, e_tupl_tup, e_tupl_lst, e_tupl_ref, e_newT, e_newF, e_run_nm, e_run_tp, e_runs_nil, e_runs_cons, e_tru_bl, e_tru_int, e_tru_str, e_tru_lst, e_tru_tup, e_ty_str, e_ty_lst, e_ty_ref, e_append, e_insert, e_popAt, e_pop0, e_join, e_seqI_val, e_cut_str, e_cut_tup, e_cut_lst, e_cut_fz, e_cut_ref]
              exact s.ins hmem e (L' := 39) (.inr ⟨y, rfl, y0, y1⟩) (by omega) (by omega) (by omega) (by omega) fun G3 s3 c3 _ _ => hN _ _ ⟨⟨_, _, _, _, _, _, rfl⟩, s3.mono (Nat.le_refl _) hM, c3 n cov⟩
            have noins : N [some (D.ref a), some (D.int n), some (D.int way), some (D.int deep), some (D.lst (as.map D.ref)), v5, v6, v7, some (D.ref b), some (D.int x), some (D.int y)] G' := hN _ _ ⟨⟨_, _, _, _, _, _, rfl⟩, s.mono (Nat.le_refl _) (by omega), cov⟩
            by_cases hxy : x = y
            · simp only [hxy, decide_true, Bool.not_true, mSeq, mIfS, mAsg, mRet, mRetN, mDrop, mTest, mOp, mC, mVar, mSetI, mNext, mCB, mCons, mNil, mAndT, mOrT, mNotT, mTruT, mIf, mNeg, mOr, mAnd, mNot, mLst, mTup, mBM, mBM0, mPar, mCall, mCallK, mLstRg1, mTupRg1, mRng1, mRng2, mEnum, mZipT, mFor, mSl, mNoPart, mPart, mLc, wipeM, List.set_cons_zero, List.set_cons_succ, startM, List.map_cons, List.map_nil, List.cons_append, List.nil_append, List.length_cons, List.length_nil, List.replicate, List.getElem?_cons_zero, List.getElem?_cons_succ, Option.some.injEq, Nat.reduceSub, Nat.reduceAdd, true_and, exists_eq_left, exists_eq_left', e_ix_tup, e_ix_lst, e_ix_fz, e_ix_ref, e_lo_lst, e_lo_fz, e_lo_ref, e_so_lst, e_so_fz, e_so_tup, e_so_ref, e_hd_lst, e_hd_ref, e_add_int, e_add_str, e_add_tup, e_add_lst, e_sub_int, e_mul_int, e_mul_lst, e_mul_tup, e_mod_int, e_fdv_int, e_pow_int, e_lt_int, e_le_int, e_gt_int, e_ge_int, e_eq_int, e_ne_int, e_eq_str, e_ne_str, e_isN, e_notN, e_isN_non, e_isN_int, e_isN_tup, e_isN_str, e_isN_ref, e_isN_lst, e_abs, e_max2, e_min2, e_int_int, e_int_bl, e_str_int, e_str_str, e_str_non, e_len_str, e_len_tup, e_len_lst, e_len_fz, e_len_ref, e_list_tup, e_list_lst, e_list_fz, e_list_ref, e_tupl_tup, e_tupl_lst, e_tupl_ref, e_newT, e_newF, e_run_nm, e_run_tp, e_runs_nil, e_runs_cons, e_tru_bl, e_tru_int, e_tru_str, e_tru_lst, e_tru_tup, e_ty_str, e_ty_lst, e_ty_ref, e_append, e_insert, e_popAt, e_pop0, e_join, e_seqI_val, e_cut_str, e_cut_tup, e_cut_lst, e_cut_fz, e_cut_ref]
              subst hxy
              by_cases hw3 : way = 3
              · simp only [hw3, decide_true]; subst hw3; exact insx
              · simp only [hw3, decide_false]; exact noins
            · simp only [hxy, decide_false, Bool.not_false]; exact insx
          · simp only [h38, decide_false, mSeq, mIfS, mAsg, mRet, mRetN, mDrop, mTest, mOp, mC, mVar, mSetI, mNext, mCB, mCons, mNil, mAndT, mOrT, mNotT, mTruT, mIf, mNeg, mOr, mAnd, mNot, mLst, mTup, mBM, mBM0, mPar, mCall, mCallK, mLstRg1, mTupRg1, mRng1, mRng2, mEnum, mZipT, mFor, mSl, mNoPart, mPart, mLc, wipeM, List.set_cons_zero, List.set_cons_succ, startM, List.map_cons, List.map_nil, List.cons_append, List.nil_append, List.length_cons, List.length_nil, List.replicate, List.getElem?_cons_zero, List.getElem?_cons_succ, Option.some.injEq, Nat.reduceSub, Nat.reduceAdd, true_and, exists_eq_left, exists_eq_left', e_ix_tup, e_ix_lst, e_ix_fz, e_ix_ref, e_lo_lst, e_lo_fz, e_lo_ref, e_so_lst, e_so_fz, e_so_tup, e_so_ref, e_hd_lst, e_hd_ref, e_add_int, e_add_str, e_add_tup, e_add_lst, e_sub_int, e_mul_int, e_mul_lst, e_mul_tup, e_mod_int, e_fdv_int, e_pow_int, e_lt_int, e_le_int, e_gt_int, e_ge_int, e_eq_int, e_ne_int, e_eq_str, e_ne_str, e_isN, e_notN, e_isN_non, e_isN_int, e_isN_tup, e_isN_str, e_isN_ref, e_isN_lst, e_abs, e_max2, e_min2, e_int_int, e_int_bl, e_str_int, e_str_str, e_str_non, e_len_str, e_len_tup, e_len_lst, e_len_fz, e_len_ref, e_list_tup, e_list_lst, e_list_fz, e_list_ref, e_tupl_tup, e_tupl_lst, e_tupl_ref, e_newT, e_newF, e_run_nm, e_run_tp, e_runs_nil, e_runs_cons, e_tru_bl, e_tru_int, e_tru_str, e_tru_lst, e_tru_tup, e_ty_str, e_ty_lst, e_ty_ref, e_append, e_insert, e_popAt, e_pop0, e_join, e_seqI_val, e_cut_str, e_cut_tup, e_cut_lst, e_cut_fz, e_cut_ref]
            exact hN _ _ ⟨⟨_, _, _, _, _, _, rfl⟩, s.mono (Nat.le_refl _) (by omega), cov⟩
        simp only [b_links_9, b_links_10, τL, e_sp_draw, mSeq, mIfS, mAsg, mRet, mRetN, mDrop, mTest, mOp, mC, mVar, mSetI, mNext, mCB, mCons, mNil, mAndT, mOrT, mNotT, mTruT, mIf, mNeg, mOr, mAnd, mNot, mLst, mTup, mBM, mBM0, mPar, mCall, mCallK, mLstRg1, mTupRg1, mRng1, mRng2, mEnum, mZipT, mFor, mSl, mNoPart, mPart, mLc, wipeM, List.set_cons_zero, List.set_cons_succ, startM, List.map_cons, List.map_nil, List.cons_append, List.nil_append, List.length_cons, List.length_nil, List.replicate, List.getElem?_cons_zero, List.getElem?_cons_succ, Option.some.injEq, Nat.reduceSub, Nat.reduceAdd, true_and, exists_eq_left, exists_eq_left', e_ix_tup, e_ix_lst, e_ix_fz, e_ix_ref, e_lo_lst, e_lo_fz, e_lo_ref, e_so_lst, e_so_fz, e_so_tup, e_so_ref, e_hd_lst, e_hd_ref, e_add_int, e_add_str, e_add_tup, e_add_lst, e_sub_int, e_mul_int, e_mul_lst, e_mul_tup, e_mod_int, e_fdv_int, e_pow_int, e_lt_int, e_le_int, e_gt_int, e_ge_int, e_eq_int, e_ne_int, e_eq_str, e_ne_str, e_isN, e_notN, e_isN_non, e_isN_int, e_isN_tup, e_isN_str, e_isN_ref, e_isN_lst, e_abs, e_max2, e_min2, e_int_int, e_int_bl, e_str_int, e_str_str, e_str_non, e_len_str, e_len_tup, e_len_lst, e_len_fz, e_len_ref, e_list_tup, e_list_lst, e_list_fz, e_list_ref, e_tupl_tup, e_tupl_lst, e_tupl_ref, e_newT, e_newF, e_run_nm, e_run_tp, e_runs_nil, e_runs_cons, e_tru_bl, e_tru_int, e_tru_str, e_tru_lst, e_tru_tup, e_ty_str, e_ty_lst, e_ty_ref, e_append, e_insert, e_popAt, e_pop0, e_join, e_seqI_val, e_cut_str, e_cut_tup, e_cut_lst, e_cut_fz, e_cut_ref]
        obtain ⟨o', ea, p'⟩ := s.pen
        refine draw_at (E := noX) ea p' (by omega) (by omega) (by omega) fun x o2 x0 x1 p2 => ?_
        refine draw_at (E := noX) put_same p2 (by omega) (by omega) (by omega) fun y o3 y0 y1 p3 => ?_
        have s3 := (s.draw p2).draw p3
        have c3 := Cov.draw (s.draw p2) (o' := o3) (Cov.draw s (o' := o2) cov)
        simp only [b_links_11, mSeq, mIfS, mAsg, mRet, mRetN, mDrop, mTest, mOp, mC, mVar, mSetI, mNext, mCB, mCons, mNil, mAndT, mOrT, mNotT, mTruT, mIf, mNeg, mOr, mAnd, mNot, mLst, mTup, mBM, mBM0, mPar, mCall, mCallK, mLstRg1, mTupRg1, mRng1, mRng2, mEnum, mZipT, mFor, mSl, mNoPart, mPart, mLc, wipeM, List.set_cons_zero, List.set_cons_succ, startM, List.map_cons, List.map_nil, List.cons_append, List.nil_append, List.length_cons, List.length_nil, List.replicate, List.getElem?_cons_zero, List.getElem?_cons_succ, Option.some.injEq, Nat.reduceSub, Nat.reduceAdd, true_and, exists_eq_left, exists_eq_left', e_ix_tup, e_ix_lst, e_ix_fz, e_ix_ref, e_lo_lst, e_lo_fz, e_lo_ref, e_so_lst, e_so_fz, e_so_tup, e_so_ref, e_hd_lst, e_hd_ref, e_add_int, e_add_str, e_add_tup, e_add_lst, e_sub_int, e_mul_int, e_mul_lst, e_mul_tup, e_mod_int, e_fdv_int, e_pow_int, e_lt_int, e_le_int, e_gt_int, e_ge_int, e_eq_int, e_ne_int, e_eq_str, e_ne_str, e_isN, e_notN, e_isN_non, e_isN_int, e_isN_tup, e_isN_str, e_isN_ref, e_isN_lst, e_abs, e_max2, e_min2, e_int_int, e_int_bl, e_str_int, e_str_str, e_str_non, e_len_str, e_len_tup, e_len_lst, e_len_fz, e_len_ref, e_list_tup, e_list_lst, e_list_fz, e_list_ref, e_tupl_tup, e_tupl_lst, e_tupl_ref, e_newT, e_newF, e_run_nm, e_run_tp, e_runs_nil, e_runs_cons, e_tru_bl, e_tru_int, e_tru_str, e_tru_lst, e_tru_tup, e_ty_str, e_ty_lst, e_ty_ref, e_append, e_insert, e_popAt, e_pop0, e_join, e_seqI_val, e_cut_str, e_cut_tup, e_cut_lst, e_cut_fz, e_cut_ref]
        by_cases hyx : y ≤ x
        · simp only [hyx, decide_true, mSeq, mIfS, mAsg, mRet, mRetN, mDrop, mTest, mOp, mC, mVar, mSetI, mNext, mCB, mCons, mNil, mAndT, mOrT, mNotT, mTruT, mIf, mNeg, mOr, mAnd, mNot, mLst, mTup, mBM, mBM0, mPar, mCall, mCallK, mLstRg1, mTupRg1, mRng1, mRng2, mEnum, mZipT, mFor, mSl, mNoPart, mPart, mLc, wipeM, List.set_cons_zero, List.set_cons_succ, startM, List.map_cons, List.map_nil, List.cons_append, List.nil_append, List.length_cons, List.length_nil, List.replicate, List.getElem?_cons_zero, List.getElem?_cons_succ, Option.some.injEq, Nat.reduceSub, Nat.reduceAdd, true_and, exists_eq_left, exists_eq_left', e_ix_tup, e_ix_lst, e_ix_fz, e_ix_ref, e_lo_lst, e_lo_fz, e_lo_ref, e_so_lst, e_so_fz, e_so_tup, e_so_ref, e_hd_lst, e_hd_ref, e_add_int, e_add_str, e_add_tup, e_add_lst, e_sub_int, e_mul_int, e_mul_lst, e_mul_tup, e_mod_int, e_fdv_int, e_pow_int, e_lt_int, e_le_int, e_gt_int, e_ge_int, e_eq_int, e_ne_int, e_eq_str, e_ne_str, e_isN, e_notN, e_isN_non, e_isN_int, e_isN_tup, e_isN_str, e_isN_ref, e_isN_lst, e_abs, e_max2, e_min2, e_int_int, e_int_bl, e_str_int, e_str_str, e_str_non, e_len_str, e_len_tup, e_len_lst, e_len_fz, e_len_ref, e_list_tup, e_list_lst, e_list_fz, e_list_ref, e_tupl_tup, e_tupl_lst, e_tupl_ref, e_newT, e_newF, e_run_nm, e_run_tp, e_runs_nil, e_runs_cons, e_tru_bl, e_tru_int, e_tru_str, e_tru_lst, e_tru_tup, e_ty_str, e_ty_lst, e_ty_ref, e_append, e_insert, e_popAt, e_pop0, e_join, e_seqI_val, e_cut_str, e_cut_tup, e_cut_lst, e_cut_fz, e_cut_ref]
          have swap : ∀ (M : Nat) (G' : Gp), M + 1 ≤ m + 301 + 4 * (i + 1) → LS G a (RefOk n) 39 M as G' → Cov n as G' → b_links_12 { nx := b_links_13 { nx := N, rt := less q, bk := b_links_16 { nx := fun x G' => less q D.non G', rt := less q }, ct := N }, rt := less q, bk := b_links_16 { nx := fun x G' => less q D.non G', rt := less q }, ct := N } [some (D.ref a), some (D.int n), some (D.int way), some (D.int deep), some (D.lst (as.map D.ref)), some (D.int (0 + (i : Nat))), v6, v7, v8, some (D.int x), some (D.int y)] G' := by
            intro M G' hM s cov
            simp only [b_links_12, mSeq, mIfS, mAsg, mRet, mRetN, mDrop, mTest, mOp, mC, mVar, mSetI, mNext, mCB, mCons, mNil, mAndT, mOrT, mNotT, mTruT, mIf, mNeg, mOr, mAnd, mNot, mLst, mTup, mBM, mBM0, mPar, mCall, mCallK, mLstRg1, mTupRg1, mRng1, mRng2, mEnum, mZipT, mFor, mSl, mNoPart, mPart, mLc, wipeM, List.set_cons_zero, List.set_cons_succ, startM, List.map_cons, List.map_nil, List.cons_append, List.nil_append, List.length_cons, List.length_nil, List.replicate, List.getElem?_cons_zero, List.getElem?_cons_succ, Option.some.injEq, Nat.reduceSub, Nat.reduceAdd, true_and, exists_eq_left, exists_eq_left', e_ix_tup, e_ix_lst, e_ix_fz, e_ix_ref, e_lo_lst, e_lo_fz, e_lo_ref, e_so_lst, e_so_fz, e_so_tup, e_so_ref, e_hd_lst, e_hd_ref, e_add_int, e_add_str, e_add_tup, e_add_lst, e_sub_int, e_mul_int, e_mul_lst, e_mul_tup, e_mod_int, e_fdv_int, e_pow_int, e_lt_int, e_le_int, e_gt_int, e_ge_int, e_eq_int, e_ne_int, e_eq_str, e_ne_str, e_isN, e_notN, e_isN_non, e_isN_int, e_isN_tup, e_isN_str, e_isN_ref, e_isN_lst, e_abs, e_max2, e_min2, e_int_int, e_int_bl, e_str_int, e_str_str, e_str_non, e_len_str, e_len_tup, e_len_lst, e_len_fz, e_len_ref, e_list_tup, e_list_lst, e_list_fz, e_list_ref, e_tupl_tup, e_tupl_lst, e_tupl_ref, e_newT, e_newF, e_run_nm, e_run_tp, e_runs_nil, e_runs_cons, e_tru_bl, e_tru_int, e_tru_str, e_tru_lst, e_tru_tup, e_ty_str, e_ty_lst, e_ty_ref, e_append, e_insert, e_popAt, e_pop0, e_join, e_seqI_val, e_cut_str, e_cut_tup, e_cut_lst, e_cut_fz, e_cut_ref]
            refine tail _ _ M G' _ _ _ _ ?_ ?_ ?_ ?_ hM s cov
            · split <;> omega
            · split <;> omega
            · split <;> split <;> split <;> omega
            · split <;> split <;> split <;> omega
          by_cases hw3 : way < 3
          · simp only [hw3, decide_true]
            exact swap _ _ (by omega) s3 c3
          · simp only [hw3, decide_false, e_sp_draw, mSeq, mIfS, mAsg, mRet, mRetN, mDrop, mTest, mOp, mC, mVar, mSetI, mNext, mCB, mCons, mNil, mAndT, mOrT, mNotT, mTruT, mIf, mNeg, mOr, mAnd, mNot, mLst, mTup, mBM, mBM0, mPar, mCall, mCallK, mLstRg1, mTupRg1, mRng1, mRng2, mEnum, mZipT, mFor, mSl, mNoPart, mPart, mLc, wipeM, List.set_cons_zero, List.set_cons_succ, startM, List.map_cons, List.map_nil, List.cons_append, List.nil_append, List.length_cons, List.length_nil, List.replicate, List.getElem?_cons_zero, List.getElem?_cons_succ, Option.some.injEq, Nat.reduceSub, Nat.reduceAdd, true_and, exists_eq_left, exists_eq_left', e_ix_tup, e_ix_lst, e_ix_fz, e_ix_ref, e_lo_lst, e_lo_fz, e_lo_ref, e_so_lst, e_so_fz, e_so_tup, e_so_ref, e_hd_lst, e_hd_ref, e_add_int, e_add_str, e_add_tup, e_add_lst, e_sub_int, e_mul_int, e_mul_lst, e_mul_tup, e_mod_int, e_fdv_int, e_pow_int, e_lt_int, e_le_int, e_gt_int, e_ge_int, e_eq_int, e_ne_int, e_eq_str, e_ne_str, e_isN, e_notN, e_isN_non, e_isN_int, e_isN_tup, e_isN_str, e_isN_ref, e_isN_lst, e_abs, e_max2, e_min2, e_int_int, e_int_bl, e_str_int, e_str_str, e_str_non, e_len_str, e_len_tup, e_len_lst, e_len_fz, e_len_ref, e_list_tup, e_list_lst, e_list_fz, e_list_ref, e_tupl_tup, e_tupl_lst, e_tupl_ref, e_newT, e_newF, e_run_nm, e_run_tp, e_runs_nil, e_runs_cons, e_tru_bl, e_tru_int, e_tru_str, e_tru_lst, e_tru_tup, e_ty_str, e_ty_lst, e_ty_ref, e_append, e_insert, e_popAt, e_pop0, e_join, e_seqI_val, e_cut_str, e_cut_tup, e_cut_lst, e_cut_fz, e_cut_ref]
            refine draw_at (E := noX) put_same p3 (by omega) (by omega) (by omega) fun z o4 z0 z1 p4 => ?_
            have s4 := s3.draw p4
            have c4 := Cov.draw s3 (o' := o4) c3
            simp only [mSeq, mIfS, mAsg, mRet, mRetN, mDrop, mTest, mOp, mC, mVar, mSetI, mNext, mCB, mCons, mNil, mAndT, mOrT, mNotT, mTruT, mIf, mNeg, mOr, mAnd, mNot, mLst, mTup, mBM, mBM0, mPar, mCall, mCallK, mLstRg1, mTupRg1, mRng1, mRng2, mEnum, mZipT, mFor, mSl, mNoPart, mPart, mLc, wipeM, List.set_cons_zero, List.set_cons_succ, startM, List.map_cons, List.map_nil, List.cons_append, List.nil_append, List.length_cons, List.length_nil, List.replicate, List.getElem?_cons_zero, List.getElem?_cons_succ, Option.some.injEq, Nat.reduceSub, Nat.reduceAdd, true_and, exists_eq_left, exists_eq_left', e_ix_tup, e_ix_lst, e_ix_fz, e_ix_ref, e_lo_lst, e_lo_fz, e_lo_ref, e_so_lst, e_so_fz, e_so_tup, e_so_ref, e_hd_lst, e_hd_ref, e_add_int, e_add_str, e_add_tup, e_add_lst, e_sub_int, e_mul_int, e_mul_lst, e_mul_tup, e_mod_int, e_fdv_int, e_pow_int, e_lt_int, e_le_int, e_gt_int, e_ge_int, e_eq_int, e_ne_int, e_eq_str, e_ne_str, e_isN, e_notN, e_isN_non, e_isN_int, e_isN_tup, e_isN_str, e_isN_ref, e_isN_lst, e_abs, e_max2, e_min2, e_int_int, e_int_bl, e_str_int, e_str_str, e_str_non, e_len_str, e_len_tup, e_len_lst, e_len_fz, e_len_ref, e_list_tup, e_list_lst, e_list_fz, e_list_ref, e_tupl_tup, e_tupl_lst, e_tupl_ref, e_newT, e_newF, e_run_nm, e_run_tp, e_runs_nil, e_runs_cons, e_tru_bl, e_tru_int, e_tru_str, e_tru_lst, e_tru_tup, e_ty_str, e_ty_lst, e_ty_ref, e_append, e_insert, e_popAt, e_pop0, e_join, e_seqI_val, e_cut_str, e_cut_tup, e_cut_lst, e_cut_fz, e_cut_ref]
            by_cases hz : 0 < z
            · simp only [hz, decide_true]
              exact swap _ _ (by omega) s4 c4
            · simp only [hz, decide_false]
              exact tail x y _ _ _ _ _ _ x0 x1 y0 y1 (by omega) s4 c4
        · simp only [hyx, decide_false, mSeq, mIfS, mAsg, mRet, mRetN, mDrop, mTest, mOp, mC, mVar, mSetI, mNext, mCB, mCons, mNil, mAndT, mOrT, mNotT, mTruT, mIf, mNeg, mOr, mAnd, mNot, mLst, mTup, mBM, mBM0, mPar, mCall, mCallK, mLstRg1, mTupRg1, mRng1, mRng2, mEnum, mZipT, mFor, mSl, mNoPart, mPart, mLc, wipeM, List.set_cons_zero, List.set_cons_succ, startM, List.map_cons, List.map_nil, List.cons_append, List.nil_append, List.length_cons, List.length_nil, List.replicate, List.getElem?_cons_zero, List.getElem?_cons_succ, Option.some.injEq, Nat.reduceSub, Nat.reduceAdd, true_and, exists_eq_left, exists_eq_left', e_ix_tup, e_ix_lst, e_ix_fz, e_ix_ref, e_lo_lst, e_lo_fz, e_lo_ref, e_so_lst, e_so_fz, e_so_tup, e_so_ref, e_hd_lst, e_hd_ref, e_add_int, e_add_str, e_add_tup, e_add_lst, e_sub_int, e_mul_int, e_mul_lst, e_mul_tup, e_mod_int, e_fdv_int, e_pow_int, e_lt_int, e_le_int, e_gt_int, e_ge_int, e_eq_int, e_ne_int, e_eq_str, e_ne_str, e_isN, e_notN, e_isN_non, e_isN_int, e_isN_tup, e_isN_str, e_isN_ref, e_isN_lst, e_abs, e_max2, e_min2, e_int_int, e_int_bl, e_str_int, e_str_str, e_str_non, e_len_str, e_len_tup, e_len_lst, e_len_fz, e_len_ref, e_list_tup, e_list_lst, e_list_fz, e_list_ref, e_tupl_tup, e_tupl_lst, e_tupl_ref, e_newT, e_newF, e_run_nm, e_run_tp, e_runs_nil, e_runs_cons, e_tru_bl, e_tru_int, e_tru_str, e_tru_lst, e_tru_tup, e_ty_str, e_ty_lst, e_ty_ref, e_append, e_insert, e_popAt, e_pop0, e_join, e_seqI_val, e_cut_str, e_cut_tup, e_cut_lst, e_cut_fz, e_cut_ref]
          exact tail x y _ _ _ _ _ _ x0 x1 y0 y1 (by omega) s3 c3
      · rintro τ G' ⟨hτ, s, cov⟩
        rw [rng_len] at s
        exact ⟨trivial, last τ G' hτ (s.mono (Nat.le_refl _) (by omega)) cov⟩
    have hw : way = 0 ∨ way = 1 ∨ way = 2 ∨ way = 3 := by omega
    rcases hw with rfl | rfl | rfl | rfl
    · exact ⟨_, _, rfl, rfl, go 0 (by omega) (by omega)⟩
    · exact ⟨_, _, rfl, rfl, go c (by omega) (by omega)⟩
    · exact ⟨_, _, rfl, rfl, go n (by omega) (by omega)⟩
    · exact ⟨_, _, rfl, rfl, go (2 * n) (by omega) (by omega)⟩
  -- the first loop
  simp only [b_links_4, mSeq, mIfS, mAsg, mRet, mRetN, mDrop, mTest, mOp, mC, mVar, mSetI, mNext, mCB, mCons, mNil, mAndT, mOrT, mNotT, mTruT, mIf, mNeg, mOr, mAnd, mNot, mLst, mTup, mBM, mBM0, mPar, mCall, mCallK, mLstRg1, mTupRg1, mRng1, mRng2, mEnum, mZipT, mFor, mSl, mNoPart, mPart, mLc, wipeM, List.set_cons_zero, List.set_cons_succ, startM, List.map_cons, List.map_nil, List.cons_append, List.nil_append, List.length_cons, List.length_nil, List.replicate, List.getElem?_cons_zero, List.getElem?_cons_succ, Option.some.injEq, Nat.reduceSub, Nat.reduceAdd, true_and, exists_eq_left, exists_eq_left', e_ix_tup, e_ix_lst, e_ix_fz, e_ix_ref, e_lo_lst, e_lo_fz, e_lo_ref, e_so_lst, e_so_fz, e_so_tup, e_so_ref, e_hd_lst, e_hd_ref, e_add_int, e_add_str, e_add_tup, e_add_lst, e_sub_int, e_mul_int, e_mul_lst, e_mul_tup, e_mod_int, e_fdv_int, e_pow_int, e_lt_int, e_le_int, e_gt_int, e_ge_int, e_eq_int, e_ne_int, e_eq_str, e_ne_str, e_isN, e_notN, e_isN_non, e_isN_int, e_isN_tup, e_isN_str, e_isN_ref, e_isN_lst, e_abs, e_max2, e_min2, e_int_int, e_int_bl, e_str_int, e_str_str, e_str_non, e_len_str, e_len_tup, e_len_lst, e_len_fz, e_len_ref, e_list_tup, e_list_lst, e_list_fz, e_list_ref, e_tupl_tup, e_tupl_lst, e_tupl_ref, e_newT, e_newF, e_run_nm, e_run_tp, e_runs_nil, e_runs_cons, e_tru_bl, e_tru_int, e_tru_str, e_tru_lst, e_tru_tup, e_ty_str, e_ty_lst, e_ty_ref, e_append, e_insert, e_popAt, e_pop0, e_join, e_seqI_val, e_cut_str, e_cut_tup, e_cut_lst, e_cut_fz, e_cut_ref]
  refine ⟨⟨by decide, by decide, by omega, by omega⟩, loop_ind (fun i τ G' => (∃ v5 v6 v7 v8 v9 v10, τ = τL a n way deep as v5 v6 v7 v8 v9 v10) ∧ LS G a (RefOk n) i (m + 2 + 3 * i) as G' ∧ Cov (i + 1) as G') ?_ ?_ ⟨⟨_, _, _, _, _, _, rfl⟩, s, fun v v1 v2 => by omega⟩⟩
  · rintro i w τ G' N hw ⟨⟨v5, v6, v7, v8, v9, v10, rfl⟩, s, cov⟩ hN
    obtain ⟨hi, rfl⟩ := rng_at hw
    have hi' : i + 1 < n := by omega
    refine ⟨trivial, ?_⟩
    simp only [b_links_5, τL, e_sp_draw, mSeq, mIfS, mAsg, mRet, mRetN, mDrop, mTest, mOp, mC, mVar, mSetI, mNext, mCB, mCons, mNil, mAndT, mOrT, mNotT, mTruT, mIf, mNeg, mOr, mAnd, mNot, mLst, mTup, mBM, mBM0, mPar, mCall, mCallK, mLstRg1, mTupRg1, mRng1, mRng2, mEnum, mZipT, mFor, mSl, mNoPart, mPart, mLc, wipeM, List.set_cons_zero, List.set_cons_succ, startM, List.map_cons, List.map_nil, List.cons_append, List.nil_append, List.length_cons, List.length_nil, List.replicate, List.getElem?_cons_zero, List.getElem?_cons_succ, Option.some.injEq, Nat.reduceSub, Nat.reduceAdd, true_and, exists_eq_left, exists_eq_left', e_ix_tup, e_ix_lst, e_ix_fz, e_ix_ref, e_lo_lst, e_lo_fz, e_lo_ref, e_so_lst, e_so_fz, e_so_tup, e_so_ref, e_hd_lst, e_hd_ref, e_add_int, e_add_str, e_add_tup, e_add_lst, e_sub_int, e_mul_int, e_mul_lst, e_mul_tup, e_mod_int, e_fdv_int, e_pow_int, e_lt_int, e_le_int, e_gt_int, e_ge_int, e_eq_int, e_ne_int, e_eq_str, e_ne_str, e_isN, e_notN, e_isN_non, e_isN_int, e_isN_tup, e_isN_str, e_isN_ref, e_isN_lst, e_abs, e_max2, e_min2, e_int_int, e_int_bl, e_str_int, e_str_str, e_str_non, e_len_str, e_len_tup, e_len_lst, e_len_fz, e_len_ref, e_list_tup, e_list_lst, e_list_fz, e_list_ref, e_tupl_tup, e_tupl_lst, e_tupl_ref, e_newT, e_newF, e_run_nm, e_run_tp, e_runs_nil, e_runs_cons, e_tru_bl, e_tru_int, e_tru_str, e_tru_lst, e_tru_tup, e_ty_str, e_ty_lst, e_ty_ref, e_append, e_insert, e_popAt, e_pop0, e_join, e_seqI_val, e_cut_str, e_cut_tup, e_cut_lst, e_cut_fz, e_cut_ref]
    obtain ⟨o', ea, p'⟩ := s.pen
    refine draw_at (E := noX) ea p' (by omega) (by omega) (by omega) fun x o2 x0 x1 p2 => ?_
    refine draw_at (E := noX) put_same p2 (by omega) (by omega) (by omega) fun y o3 y0 y1 p3 => ?_
    have s3 := (s.draw p2).draw p3
    simp only [mSeq, mIfS, mAsg, mRet, mRetN, mDrop, mTest, mOp, mC, mVar, mSetI, mNext, mCB, mCons, mNil, mAndT, mOrT, mNotT, mTruT, mIf, mNeg, mOr, mAnd, mNot, mLst, mTup, mBM, mBM0, mPar, mCall, mCallK, mLstRg1, mTupRg1, mRng1, mRng2, mEnum, mZipT, mFor, mSl, mNoPart, mPart, mLc, wipeM, List.set_cons_zero, List.set_cons_succ, startM, List.map_cons, List.map_nil, List.cons_append, List.nil_append, List.length_cons, List.length_nil, List.replicate, List.getElem?_cons_zero, List.getElem?_cons_succ, Option.some.injEq, Nat.reduceSub, Nat.reduceAdd, true_and, exists_eq_left, exists_eq_left', e_ix_tup, e_ix_lst, e_ix_fz, e_ix_ref, e_lo_lst, e_lo_fz, e_lo_ref, e_so_lst, e_so_fz, e_so_tup, e_so_ref, e_hd_lst, e_hd_ref, e_add_int, e_add_str, e_add_tup, e_add_lst, e_sub_int, e_mul_int, e_mul_lst, e_mul_tup, e_mod_int, e_fdv_int, e_pow_int, e_lt_int, e_le_int, e_gt_int, e_ge_int, e_eq_int, e_ne_int, e_eq_str, e_ne_str, e_isN, e_notN, e_isN_non, e_isN_int, e_isN_tup, e_isN_str, e_isN_ref, e_isN_lst, e_abs, e_max2, e_min2, e_int_int, e_int_bl, e_str_int, e_str_str, e_str_non, e_len_str, e_len_tup, e_len_lst, e_len_fz, e_len_ref, e_list_tup, e_list_lst, e_list_fz, e_list_ref, e_tupl_tup, e_tupl_lst, e_tupl_ref, e_newT, e_newF, e_run_nm, e_run_tp, e_runs_nil, e_runs_cons, e_tru_bl, e_tru_int, e_tru_str, e_tru_lst, e_tru_tup, e_ty_str, e_ty_lst, e_ty_ref, e_append, e_insert, e_popAt, e_pop0, e_join, e_seqI_val, e_cut_str, e_cut_tup, e_cut_lst, e_cut_fz, e_cut_ref]
    refine ⟨by decide, ?_⟩
    have go : ∀ t : Int, 0 ≤ t → t < n → b_links_6 { nx := N, rt := less q, bk := b_links_8 { nx := fun x G' => less q D.non G', rt := less q }, ct := N } [some (D.ref a), some (D.int n), some (D.int way), some (D.int deep), some (D.lst (as.map D.ref)), v5, some (D.int (1 + (i : Nat))), some (D.int t), v8, v9, v10] (put (put G' a o2) a o3) := by
      intro t t0 t1
      simp only [b_links_6, mSeq, mIfS, mAsg, mRet, mRetN, mDrop, mTest, mOp, mC, mVar, mSetI, mNext, mCB, mCons, mNil, mAndT, mOrT, mNotT, mTruT, mIf, mNeg, mOr, mAnd, mNot, mLst, mTup, mBM, mBM0, mPar, mCall, mCallK, mLstRg1, mTupRg1, mRng1, mRng2, mEnum, mZipT, mFor, mSl, mNoPart, mPart, mLc, wipeM, List.set_cons_zero, List.set_cons_succ, startM, List.map_cons, List.map_nil, List.cons_append, List.nil_append, List.length_cons, List.length_nil, List.replicate, List.getElem?_cons_zero, List.getElem?_cons_succ, Option.some.injEq, Nat.reduceSub, Nat.reduceAdd, true_and, exists_eq_left, exists_eq_left', e_ix_tup, e_ix_lst, e_ix_fz, e_ix_ref, e_lo_lst, e_lo_fz, e_lo_ref, e_so_lst, e_so_fz, e_so_tup, e_so_ref, e_hd_lst, e_hd_ref, e_add_int, e_add_str, e_add_tup, e_add_lst, e_sub_int, e_mul_int, e_mul_lst, e_mul_tup, e_mod_int, e_fdv_int, e_pow_int, e_lt_int, e_le_int, e_gt_int, e_ge_int, e_eq_int, e_ne_int, e_eq_str, e_ne_str, e_isN, e_notN, e_isN_non, e_isN_int, e_isN_tup, e_isN_str, e_isN_ref, e_isN_lst, e_abs, e_max2, e_min2, e_int_int, e_int_bl, e_str_int, e_str_str, e_str_non, e_len_str, e_len_tup, e_len_lst, e_len_fz, e_len_ref, e_list_tup, e_list_lst, e_list_fz, e_list_ref, e_tupl_tup, e_tupl_lst, e_tupl_ref, e_newT, e_newF, e_run_nm, e_run_tp, e_runs_nil, e_runs_cons, e_tru_bl, e_tru_int, e_tru_str, e_tru_lst, e_tru_tup, e_ty_str, e_ty_lst, e_ty_ref, e_append, e_insert, e_popAt, e_pop0, e_join, e_seqI_val, e_cut_str, e_cut_tup, e_cut_lst, e_cut_fz, e_cut_ref]
      obtain ⟨b, hb, hmem⟩ := at_refs (as := as) t0 (by omega)
      refine ⟨_, _, rfl, hb, ?_⟩
      simp only [b_links_7, e_sp_draw, mSeq, mIfS, mAsg, mRet, mRetN, mDrop, mTest, mOp, mC, mVar, mSetI, mNext, mCB, mCons, mNil, mAndT, mOrT, mNotT, mTruT, mIf, mNeg, mOr, mAnd, mNot, mLst, mTup, mBM, mBM0, mPar, mCall, mCallK, mLstRg1, mTupRg1, mRng1, mRng2, mEnum, mZipT, mFor, mSl, mNoPart, mPart, mLc, wipeM, List.set_cons_zero, List.set_cons_succ, startM, List.map_cons, List.map_nil, List.cons_append, List.nil_append, List.length_cons, List.length_nil, List.replicate, List.getElem?_cons_zero, List.getElem?_cons_succ, Option.some.injEq, Nat.reduceSub, Nat.reduceAdd, true_and, exists_eq_left, exists_eq_left', e_ix_tup, e_ix_lst, e_ix_fz, e_ix_ref, e_lo_lst, e_lo_fz, e_lo_ref, e_so_lst, e_so_fz, e_so_tup, e_so_ref, e_hd_lst, e_hd_ref, e_add_int, e_add_str, e_add_tup, e_add_lst, e_sub_int, e_mul_int, e_mul_lst, e_mul_tup, e_mod_int, e_fdv_int, e_pow_int, e_lt_int, e_le_int, e_gt_int, e_ge_int, e_eq_int, e_ne_int, e_eq_str, e_ne_str, e_isN, e_notN, e_isN_non, e_isN_int, e_isN_tup, e_isN_str, e_isN_ref, e_isN_lst, e_abs, e_max2, e_min2, e_int_int, e_int_bl, e_str_int, e_str_str, e_str_non, e_len_str, e_len_tup, e_len_lst, e_len_fz, e_len_ref, e_list_tup, e_list_lst, e_list_fz, e_list_ref, e_tupl_tup, e_tupl_lst, e_tupl_ref, e_newT, e_newF, e_run_nm, e_run_tp, e_runs_nil, e_runs_cons, e_tru_bl, e_tru_int, e_tru_str, e_tru_lst, e_tru_tup, e_ty_str, e_ty_lst, e_ty_ref, e_append, e_insert, e_popAt, e_pop0, e_join, e_seqI_val, e_cut_str, e_cut_tup, e_cut_lst, e_cut_fz, e_cut_ref]
      obtain ⟨row, e, r⟩ := s3.rows b hmem
      have hr1 := r.1
      exact s3.ins hmem e (L' := i + 1) (.inr ⟨_, rfl, by omega, by omega⟩) (by omega) (by omega) (by omega) (by omega) fun G3 s4 c4 ⟨row2, e2, hin, _⟩ _ => hN _ _ ⟨⟨_, _, _, _, _, _, rfl⟩, s4.mono (by omega) (by omega), fun v v1 v2 => by
        by_cases hv : v = i + 1
        · subst hv
          exact ⟨b, hmem, row2, e2, by rw [show ((i + 1 : Nat) : Int) = 1 + (i : Nat) by omega]; exact hin⟩
        · exact c4 (i + 1) (Cov.draw (s.draw p2) (o' := o3) (Cov.draw s (o' := o2) cov)) v v1 (by omega)⟩
    have hd : deep = 0 ∨ deep = 1 ∨ deep = 2 := by omega
    rcases hd with rfl | rfl | rfl
    · exact ⟨_, _, rfl, rfl, go _ (by omega) (by omega)⟩
    · exact ⟨_, _, rfl, rfl, go _ (by omega) (by omega)⟩
    · exact ⟨_, _, rfl, rfl, go _ (by split <;> omega) (by split <;> omega)⟩
  · rintro τ G' ⟨hτ, s, cov⟩
    rw [rng_len] at s cov
    exact ⟨trivial, mid τ G' hτ (s.mono (by omega) (by omega)) fun v v1 v2 => cov v v1 (by omega)⟩
end Q82

set_option maxRecDepth 100000
namespace Q82
open PySem PySem.Spec L2 ML
open PyProof.Rows hiding St
structure OL (G : Gp) (a p : Addr) (as : List Addr) (Q : List D → Prop) (G' : Gp) : Prop where
  na : p ≠ a
  nm : p ∉ as
  g : G p = none
  s : ∃ sl, G' p = some (.lst sl) ∧ Q sl
section
variable {G G' : Gp} {a b p : Addr} {P : D → Prop} {Q Q' : List D → Prop} {L m m' : Nat} {as : List Addr} {o : MO}
theorem OL.keep (h : OL G a p as Q G') (hb : b ≠ p) : OL G a p as Q (put G' b o) := ⟨h.na, h.nm, h.g, let ⟨sl, e, r⟩ := h.s; ⟨sl, by rw [put_ne hb.symm]; exact e, r⟩⟩
theorem OL.set (h : OL G a p as Q G') {sl : List D} (hq : Q' sl) : OL G a p as Q' (put G' p (.lst sl)) := ⟨h.na, h.nm, h.g, sl, put_same, hq⟩
theorem LS.keep (s : LS G a P L m as G') (hp : p ≠ a) (hm : p ∉ as) (hg : G p = none) : LS G a P L m as (put G' p o) := by
  refine ⟨s.na, s.nd, s.new, fun b hb => ?_, ?_, fun b u hb e => ?_⟩
  · obtain ⟨row, e, r⟩ := s.rows b hb
    exact ⟨row, by rw [put_ne (fun z => hm (by subst z; exact hb))]; exact e, r⟩
  · obtain ⟨o', e, p'⟩ := s.pen; exact ⟨o', by rw [put_ne hp.symm]; exact e, p'⟩
  · have : b ≠ p := fun z => by subst z; rw [hg] at e; cases e
    rw [put_ne this]; exact s.old b u hb e
theorem LS.fresh (s : LS G a P L m as G') (hp : G' p = none) : p ≠ a ∧ p ∉ as ∧ G p = none := by
  obtain ⟨o', e, _⟩ := s.pen
  have na : p ≠ a := fun z => by subst z; rw [hp] at e; cases e
  refine ⟨na, fun z => ?_, ?_⟩
  · obtain ⟨row, e, _⟩ := s.rows p z; rw [hp] at e; cases e
  · cases e : G p with
    | none => rfl
    | some u => rw [s.old p u na e] at hp; cases hp
theorem LS.fin (s : LS G a P L m as G') {o' : MO} (e : G' a = some o') : Sub (put G a o') G' := sub_of e s.old
end
/-- the v-th of the names -/
def nmN (is : List Int) (v : Nat) : Nat := (is.getD v 0).toNat
theorem nm_at {is : List Int} {n v : Nat} (h : NumsIn n is) (hv : v < is.length) : atI (is.map D.int) ((v : Nat) : Int) = some (.int (nmN is v : Nat)) ∧ nmN is v < n := by
  obtain ⟨w, hw, hm, hg⟩ := at_in (xs := is.map D.int) (i := (v : Nat)) (by omega) (by rw [List.length_map]; omega)
  have e : is[v]? = some is[v] := List.getElem?_eq_getElem hv
  rw [Int.toNat_natCast, List.getElem?_map, e] at hg
  have h2 := h is[v] (List.getElem_mem _)
  have e2 : is.getD v 0 = is[v] := by rw [List.getD_eq_getElem?_getD, e]; rfl
  have e3 : ((nmN is v : Nat) : Int) = is[v] := by unfold nmN; rw [e2]; omega
  refine ⟨by rw [hw, e3]; exact hg.symm, by unfold nmN; rw [e2]; omega⟩
theorem nm_inj {is : List Int} {n u v : Nat} (h : NumsIn n is) (nd : is.Nodup) (hu : u < is.length) (hv : v < is.length) (e : nmN is u = nmN is v) : u = v := by
  have e1 : is.getD u 0 = is[u] := by rw [List.getD_eq_getElem?_getD, List.getElem?_eq_getElem hu]; rfl
  have e2 : is.getD v 0 = is[v] := by rw [List.getD_eq_getElem?_getD, List.getElem?_eq_getElem hv]; rfl
  have h1 := h is[u] (List.getElem_mem _)
  have h2 := h is[v] (List.getElem_mem _)
  unfold nmN at e
  rw [e1, e2] at e
  exact (List.getElem_inj nd).mp (by omega)
theorem rep_get {d : D} {k j : Nat} (h : j < k) : (List.replicate k [d]).flatten[j]? = some d ∧ (List.replicate k [d]).flatten.length = k := by
  have e : ∀ k : Nat, (List.replicate k [d]).flatten = List.replicate k d := by
    intro k
    induction k with
    | zero => rfl
    | succ k ih => rw [List.replicate_succ, List.flatten_cons, ih]; rfl
  rw [e]
  exact ⟨by rw [List.getElem?_replicate, if_pos h], List.length_replicate⟩
theorem rep_len {d : D} {k : Nat} : (List.replicate k [d]).flatten.length = k := by
  induction k with
  | zero => rfl
  | succ k ih => rw [List.replicate_succ, List.flatten_cons, List.length_append, ih]; simp; omega
theorem rep_mem {d x : D} {k : Nat} (h : x ∈ (List.replicate k [d]).flatten) : x = d := by
  induction k with
  | zero => exact nomatch h
  | succ k ih =>
    rw [List.replicate_succ, List.flatten_cons] at h
    rcases List.mem_append.mp h with h | h
    · exact List.mem_singleton.mp h
    · exact ih h
/-- what a reference becomes -/
def reName (is : List Int) (x : D) : D := match x with
  | .int i => (atI (is.map D.int) i).getD .non
  | _ => .non
theorem reName_int {is : List Int} {j : Int} {z : D} (h : atI (is.map D.int) j = some z) : reName is (.int j) = z := by
  show (atI (is.map D.int) j).getD .non = z
  rw [h]; rfl
def rowOf (G : Gp) (b : Addr) : List D := match G b with
  | some (.lst row) => row
  | _ => []
theorem rowOf_eq {G : Gp} {b : Addr} {row : List D} (h : G b = some (.lst row)) : rowOf G b = row := by unfold rowOf; rw [h]
/-- the v-th node's row, renamed -/
def newRow (G : Gp) (as : List Addr) (is : List Int) (v : Nat) : D := .tup ((rowOf G (as.getD v 0)).map (reName is))
structure Q1 (G : Gp) (as : List Addr) (is : List Int) (k i : Nat) (sl : List D) : Prop where
  len : sl.length = k
  at_ : ∀ v, v < i → sl[nmN is v]? = some (newRow G as is v)
  free : ∀ j, j < k → (∀ v, v < i → nmN is v ≠ j) → sl[j]? = some .non
structure Q2 (is : List Int) (k r : Nat) (ol : List D) : Prop where
  len : ol.length = k
  ok : ∀ x ∈ ol, OutOk x
  free : ∀ j, j < k → (∀ v, v < r → nmN is v ≠ j) → ol[j]? = some (.int 0)
theorem Q1.step {G : Gp} {as : List Addr} {is : List Int} {k i : Nat} {sl : List D} (h : Q1 G as is k i sl) (hn : NumsIn k is) (nd : is.Nodup) (hl : is.length = k) (hi : i < k) : Q1 G as is k (i + 1) (sl.set (nmN is i) (newRow G as is i)) := by
  have hb := (nm_at (v := i) hn (by omega)).2
  refine ⟨by rw [List.length_set]; exact h.len, fun v hv => ?_, fun j hj hf => ?_⟩
  · by_cases e : v = i
    · subst e; exact List.getElem?_set_self (by rw [h.len]; exact hb)
    · rw [List.getElem?_set_ne (fun z => e (nm_inj hn nd (by omega) (by omega) z.symm))]
      exact h.at_ v (by omega)
  · rw [List.getElem?_set_ne (hf i (by omega))]
    exact h.free j hj fun v hv => hf v (by omega)
theorem Q2.step {is : List Int} {k r v : Nat} {ol : List D} (h : Q2 is k r ol) (hv : v < r) {x : D} (hx : OutOk x) : Q2 is k r (ol.set (nmN is v) x) := by
  refine ⟨by rw [List.length_set]; exact h.len, fun y hy => ?_, fun j hj hf => ?_⟩
  · rcases List.mem_or_eq_of_mem_set hy with hy | rfl
    · exact h.ok y hy
    · exact hx
  · rw [List.getElem?_set_ne (hf v hv)]
    exact h.free j hj hf
theorem as_at {as : List Addr} {v : Nat} (h : v < as.length) : as.getD v 0 = as[v] := by rw [List.getD_eq_getElem?_getD, List.getElem?_eq_getElem h]; rfl
/-- the heap is right -/
theorem heap_right {G : Gp} {as : List Addr} {is : List Int} {k r : Nat} {sl ol : List D} (h1 : Q1 G as is k r sl) (h2 : Q2 is k r ol) (hn : NumsIn k is) (nd : is.Nodup) (hl : is.length = k) (hr : 1 ≤ r) (hrk : r ≤ k) (hk : k ≤ 40) (hal : as.length = r)
    (rows : RowsAt 40 (RefOk r) as G) (cov : Cov r as G) (root : ∃ c : Int, ol[nmN is 0]? = some (.int c) ∧ 1 ≤ c) : HeapOk sl ol ∧ Counted sl ol := by
  have row : ∀ v, v < r → ∃ rw', newRow G as is v = .tup (rw'.map (reName is)) ∧ RowOk 40 (RefOk r) rw' ∧ G (as.getD v 0) = some (.lst rw') := fun v hv => by
    have e := as_at (as := as) (v := v) (by omega)
    obtain ⟨rw', g, ok⟩ := rows as[v] (List.getElem_mem _)
    exact ⟨rw', by unfold newRow; rw [e, rowOf_eq g], ok, by rw [e]; exact g⟩
  have ren : ∀ x, RefOk r x → (x = .non ∧ reName is x = .non) ∨ ∃ u : Nat, u < r ∧ x = .int (u : Nat) ∧ reName is x = .int (nmN is u : Nat) := fun x hx => by
    rcases hx with rfl | ⟨i, rfl, a, b⟩
    · exact .inl ⟨rfl, rfl⟩
    · obtain ⟨u, rfl⟩ : ∃ u : Nat, i = (u : Nat) := ⟨i.toNat, by omega⟩
      exact .inr ⟨u, by omega, rfl, reName_int (nm_at hn (by omega)).1⟩
  have kind : ∀ j, j < k → (∃ v, v < r ∧ nmN is v = j) ∨ sl[j]? = some .non := fun j hj => by
    by_cases e : ∃ v, v < r ∧ nmN is v = j
    · exact .inl e
    · exact .inr (h1.free j hj fun v hv z => e ⟨v, hv, z⟩)
  have each : ∀ x ∈ sl, x = .non ∨ ∃ v, v < r ∧ x = newRow G as is v := fun x hx => by
    obtain ⟨j, hj, rfl⟩ := List.mem_iff_getElem.mp hx
    rcases kind j (by rw [h1.len] at hj; exact hj) with ⟨v, hv, rfl⟩ | e
    · have := h1.at_ v hv
      rw [List.getElem?_eq_getElem hj] at this
      exact .inr ⟨v, hv, Option.some.inj this⟩
    · rw [List.getElem?_eq_getElem hj] at e
      exact .inl (Option.some.inj e)
  refine ⟨⟨by rw [h1.len, h2.len], by rw [h1.len]; exact hk, fun x hx => ?_, h2.ok⟩, fun j x hj => ?_⟩
  · rcases each x hx with rfl | ⟨v, hv, rfl⟩
    · exact .inl rfl
    · obtain ⟨rw', e, ok, _⟩ := row v hv
      refine .inr ⟨_, e, by rw [List.length_map]; exact ok.1, fun y hy => ?_⟩
      obtain ⟨z, hz, rfl⟩ := List.mem_map.mp hy
      rcases ren z (ok.2 z hz) with ⟨_, e⟩ | ⟨u, hu, _, e⟩
      · rw [e]; exact .inl rfl
      · rw [e]; exact .inr ⟨_, rfl, by omega, by have := (nm_at (v := u) hn (by omega)).2; rw [h1.len]; omega⟩
  · have hjk : j < k := by have := (List.getElem?_eq_some_iff.mp hj).1; rw [h1.len] at this; exact this
    refine ⟨fun hx => ?_, fun hx => ?_⟩
    · subst hx
      have not : ∀ v, v < r → nmN is v ≠ j := fun v hv e => by
        subst e
        rw [h1.at_ v hv] at hj
        obtain ⟨rw', e, _⟩ := row v hv
        rw [e] at hj; cases hj
      refine ⟨h2.free j hjk not, fun ⟨rw1, hm, hin⟩ => ?_⟩
      rcases each _ hm with e | ⟨v, hv, e⟩
      · cases e
      · obtain ⟨rw', e', ok, _⟩ := row v hv
        rw [e'] at e
        cases e
        obtain ⟨z, hz, ez⟩ := List.mem_map.mp hin
        rcases ren z (ok.2 z hz) with ⟨_, e⟩ | ⟨u, hu, _, e⟩
        · rw [e] at ez; cases ez
        · rw [e] at ez
          simp only [D.int.injEq] at ez
          exact not u hu (by omega)
    · rcases kind j hjk with ⟨v, hv, rfl⟩ | e
      · by_cases h0 : v = 0
        · subst h0
          obtain ⟨c, ec, c1⟩ := root
          refine .inl ?_
          rw [ec]
          intro z
          simp only [Option.some.injEq, D.int.injEq] at z
          omega
        · obtain ⟨b, hb, row1, g, hin⟩ := cov v (by omega) hv
          obtain ⟨u, hu, rfl⟩ := List.mem_iff_getElem.mp hb
          refine .inr ⟨row1.map (reName is), ?_, List.mem_map.mpr ⟨_, hin, reName_int (nm_at hn (by omega)).1⟩⟩
          have e : newRow G as is u = .tup (row1.map (reName is)) := by unfold newRow; rw [as_at hu, rowOf_eq g]
          rw [← e]
          exact List.mem_of_getElem? (h1.at_ u (by omega))
      · rw [e] at hj
        exact absurd (Option.some.inj hj).symm hx
end Q82

set_option maxRecDepth 100000
namespace Q82
open PySem PySem.Spec L2 ML
open PyProof.Rows hiding St
theorem law_heap (x0 x1 : D) (G : Gp) (q : MK) (h : p_heap x0 x1 G q) : b_heap { nx := fun _ G' => less q .non G', rt := less q } (startM ["_law_pen_here", "_law_most", "_law_size_here", "_law_rows", "_law_spare", "_law_names", "_law_slots", "_law_outside", "_law_v", "_law_held"] [x0, x1]) G := by
  obtain ⟨a, n, m, o, rfl, rfl, hn, hn2, h0, hp, hm, kq⟩ := h
  simp only [b_heap, e_sp_size, mSeq, mIfS, mAsg, mRet, mRetN, mDrop, mTest, mOp, mC, mVar, mSetI, mNext, mCB, mCons, mNil, mAndT, mOrT, mNotT, mTruT, mIf, mNeg, mOr, mAnd, mNot, mLst, mTup, mBM, mBM0, mPar, mCall, mCallK, mLstRg1, mTupRg1, mRng1, mRng2, mEnum, mZipT, mFor, mSl, mNoPart, mPart, mLc, wipeM, List.set_cons_zero, List.set_cons_succ, startM, List.map_cons, List.map_nil, List.cons_append, List.nil_append, List.length_cons, List.length_nil, List.replicate, List.getElem?_cons_zero, List.getElem?_cons_succ, Option.some.injEq, Nat.reduceSub, Nat.reduceAdd, true_and, exists_eq_left, exists_eq_left', e_ix_tup, e_ix_lst, e_ix_fz, e_ix_ref, e_lo_lst, e_lo_fz, e_lo_ref, e_so_lst, e_so_fz, e_so_tup, e_so_ref, e_hd_lst, e_hd_ref, e_add_int, e_add_str, e_add_tup, e_add_lst, e_sub_int, e_mul_int, e_mul_lst, e_mul_tup, e_mod_int, e_fdv_int, e_pow_int, e_lt_int, e_le_int, e_gt_int, e_ge_int, e_eq_int, e_ne_int, e_eq_str, e_ne_str, e_isN, e_notN, e_isN_non, e_isN_int, e_isN_tup, e_isN_str, e_isN_ref, e_isN_lst, e_abs, e_max2, e_min2, e_int_int, e_int_bl, e_str_int, e_str_str, e_str_non, e_len_str, e_len_tup, e_len_lst, e_len_fz, e_len_ref, e_list_tup, e_list_lst, e_list_fz, e_list_ref, e_tupl_tup, e_tupl_lst, e_tupl_ref, e_newT, e_newF, e_run_nm, e_run_tp, e_runs_nil, e_runs_cons, e_tru_bl, e_tru_int, e_tru_str, e_tru_lst, e_tru_tup, e_ty_str, e_ty_lst, e_ty_ref, e_append, e_insert, e_popAt, e_pop0, e_join, e_seqI_val, e_cut_str, e_cut_tup, e_cut_lst, e_cut_fz, e_cut_ref]
  refine ⟨a, n, m, o, rfl, rfl, hn, hn2, h0, hp, by omega, fun r o1 r1 r2 p1 => ?_⟩
  simp only [b_heap_2, e_sp_links, mSeq, mIfS, mAsg, mRet, mRetN, mDrop, mTest, mOp, mC, mVar, mSetI, mNext, mCB, mCons, mNil, mAndT, mOrT, mNotT, mTruT, mIf, mNeg, mOr, mAnd, mNot, mLst, mTup, mBM, mBM0, mPar, mCall, mCallK, mLstRg1, mTupRg1, mRng1, mRng2, mEnum, mZipT, mFor, mSl, mNoPart, mPart, mLc, wipeM, List.set_cons_zero, List.set_cons_succ, startM, List.map_cons, List.map_nil, List.cons_append, List.nil_append, List.length_cons, List.length_nil, List.replicate, List.getElem?_cons_zero, List.getElem?_cons_succ, Option.some.injEq, Nat.reduceSub, Nat.reduceAdd, true_and, exists_eq_left, exists_eq_left', e_ix_tup, e_ix_lst, e_ix_fz, e_ix_ref, e_lo_lst, e_lo_fz, e_lo_ref, e_so_lst, e_so_fz, e_so_tup, e_so_ref, e_hd_lst, e_hd_ref, e_add_int, e_add_str, e_add_tup, e_add_lst, e_sub_int, e_mul_int, e_mul_lst, e_mul_tup, e_mod_int, e_fdv_int, e_pow_int, e_lt_int, e_le_int, e_gt_int, e_ge_int, e_eq_int, e_ne_int, e_eq_str, e_ne_str, e_isN, e_notN, e_isN_non, e_isN_int, e_isN_tup, e_isN_str, e_isN_ref, e_isN_lst, e_abs, e_max2, e_min2, e_int_int, e_int_bl, e_str_int, e_str_str, e_str_non, e_len_str, e_len_tup, e_len_lst, e_len_fz, e_len_ref, e_list_tup, e_list_lst, e_list_fz, e_list_ref, e_tupl_tup, e_tupl_lst, e_tupl_ref, e_newT, e_newF, e_run_nm, e_run_tp, e_runs_nil, e_runs_cons, e_tru_bl, e_tru_int, e_tru_str, e_tru_lst, e_tru_tup, e_ty_str, e_ty_lst, e_ty_ref, e_append, e_insert, e_popAt, e_pop0, e_join, e_seqI_val, e_cut_str, e_cut_tup, e_cut_lst, e_cut_fz, e_cut_ref]
  refine ⟨a, r, m + 4, o1, rfl, rfl, r1, by omega, put_same, p1, by omega, fun as G1 hl hna hnd hnew hrows hcov hpen hold => ?_⟩
  have s : LS G a (RefOk r) 40 (m + 4 + 1000) as G1 := by
    refine ⟨hna, hnd, fun b hb => ?_, hrows, hpen, fun b u hb e => hold b u hb (by rw [put_ne hb]; exact e)⟩
    have := hnew b hb
    rwa [put_ne (fun z => hna (by subst z; exact hb))] at this
  clear hrows hpen hold hnew
  have rest : ∀ (t : Int) (G2 : Gp), 0 ≤ t → r + t ≤ 40 → LS G a (RefOk r) 40 (m + 1010) as G2 → Cov r as G2 → b_heap_4 { nx := fun x G' => less q D.non G', rt := less q } [some (.ref a), some (.int n), some (.int r), some (.lst (as.map D.ref)), some (.int t), none, none, none, none, none] G2 := by
    intro t G2 t0 t1 s cov
    obtain ⟨k, hk⟩ : ∃ k : Nat, (k : Int) = r + t := ⟨(r + t).toNat, by omega⟩
    simp only [b_heap_4, e_sp_order, mSeq, mIfS, mAsg, mRet, mRetN, mDrop, mTest, mOp, mC, mVar, mSetI, mNext, mCB, mCons, mNil, mAndT, mOrT, mNotT, mTruT, mIf, mNeg, mOr, mAnd, mNot, mLst, mTup, mBM, mBM0, mPar, mCall, mCallK, mLstRg1, mTupRg1, mRng1, mRng2, mEnum, mZipT, mFor, mSl, mNoPart, mPart, mLc, wipeM, List.set_cons_zero, List.set_cons_succ, startM, List.map_cons, List.map_nil, List.cons_append, List.nil_append, List.length_cons, List.length_nil, List.replicate, List.getElem?_cons_zero, List.getElem?_cons_succ, Option.some.injEq, Nat.reduceSub, Nat.reduceAdd, true_and, exists_eq_left, exists_eq_left', e_ix_tup, e_ix_lst, e_ix_fz, e_ix_ref, e_lo_lst, e_lo_fz, e_lo_ref, e_so_lst, e_so_fz, e_so_tup, e_so_ref, e_hd_lst, e_hd_ref, e_add_int, e_add_str, e_add_tup, e_add_lst, e_sub_int, e_mul_int, e_mul_lst, e_mul_tup, e_mod_int, e_fdv_int, e_pow_int, e_lt_int, e_le_int, e_gt_int, e_ge_int, e_eq_int, e_ne_int, e_eq_str, e_ne_str, e_isN, e_notN, e_isN_non, e_isN_int, e_isN_tup, e_isN_str, e_isN_ref, e_isN_lst, e_abs, e_max2, e_min2, e_int_int, e_int_bl, e_str_int, e_str_str, e_str_non, e_len_str, e_len_tup, e_len_lst, e_len_fz, e_len_ref, e_list_tup, e_list_lst, e_list_fz, e_list_ref, e_tupl_tup, e_tupl_lst, e_tupl_ref, e_newT, e_newF, e_run_nm, e_run_tp, e_runs_nil, e_runs_cons, e_tru_bl, e_tru_int, e_tru_str, e_tru_lst, e_tru_tup, e_ty_str, e_ty_lst, e_ty_ref, e_append, e_insert, e_popAt, e_pop0, e_join, e_seqI_val, e_cut_str, e_cut_tup, e_cut_lst, e_cut_fz, e_cut_ref]
    obtain ⟨o', ea, p'⟩ := s.pen
    refine ⟨a, k, _, o', rfl, by rw [hk], by omega, ea, p', by omega, fun is o3 il iin ind p3 => ?_⟩
    have s2 := s.draw p3
    have c2 := Cov.draw s (o' := o3) cov
    simp only [b_heap_5, b_heap_6, mSeq, mIfS, mAsg, mRet, mRetN, mDrop, mTest, mOp, mC, mVar, mSetI, mNext, mCB, mCons, mNil, mAndT, mOrT, mNotT, mTruT, mIf, mNeg, mOr, mAnd, mNot, mLst, mTup, mBM, mBM0, mPar, mCall, mCallK, mLstRg1, mTupRg1, mRng1, mRng2, mEnum, mZipT, mFor, mSl, mNoPart, mPart, mLc, wipeM, List.set_cons_zero, List.set_cons_succ, startM, List.map_cons, List.map_nil, List.cons_append, List.nil_append, List.length_cons, List.length_nil, List.replicate, List.getElem?_cons_zero, List.getElem?_cons_succ, Option.some.injEq, Nat.reduceSub, Nat.reduceAdd, true_and, exists_eq_left, exists_eq_left', e_ix_tup, e_ix_lst, e_ix_fz, e_ix_ref, e_lo_lst, e_lo_fz, e_lo_ref, e_so_lst, e_so_fz, e_so_tup, e_so_ref, e_hd_lst, e_hd_ref, e_add_int, e_add_str, e_add_tup, e_add_lst, e_sub_int, e_mul_int, e_mul_lst, e_mul_tup, e_mod_int, e_fdv_int, e_pow_int, e_lt_int, e_le_int, e_gt_int, e_ge_int, e_eq_int, e_ne_int, e_eq_str, e_ne_str, e_isN, e_notN, e_isN_non, e_isN_int, e_isN_tup, e_isN_str, e_isN_ref, e_isN_lst, e_abs, e_max2, e_min2, e_int_int, e_int_bl, e_str_int, e_str_str, e_str_non, e_len_str, e_len_tup, e_len_lst, e_len_fz, e_len_ref, e_list_tup, e_list_lst, e_list_fz, e_list_ref, e_tupl_tup, e_tupl_lst, e_tupl_ref, e_newT, e_newF, e_run_nm, e_run_tp, e_runs_nil, e_runs_cons, e_tru_bl, e_tru_int, e_tru_str, e_tru_lst, e_tru_tup, e_ty_str, e_ty_lst, e_ty_ref, e_append, e_insert, e_popAt, e_pop0, e_join, e_seqI_val, e_cut_str, e_cut_tup, e_cut_lst, e_cut_fz, e_cut_ref]
    rw [← hk]
    have ek : ((k : Int)).toNat = k := by omega
    rw [ek]
    refine ⟨by decide, ⟨by omega, by omega, by have := sizeLine_eq; omega⟩, fun q1 hq1 => ?_⟩
    obtain ⟨f1, f2, f3⟩ := s2.fresh hq1
    have s3 := s2.keep (o := .lst (List.replicate k [D.non]).flatten) f1 f2 f3
    have S1 : OL G a q1 as (Q1 (put G2 a o3) as is k 0) (put (put G2 a o3) q1 (.lst (List.replicate k [D.non]).flatten)) := ⟨f1, f2, f3, _, put_same, rep_len, fun v hv => by omega, fun j hj _ => (rep_get hj).1⟩
    refine ⟨by decide, ⟨by omega, by omega, by have := sizeLine_eq; omega⟩, fun q2 hq2 => ?_⟩
    have n12 : q1 ≠ q2 := fun z => by subst z; rw [put_same] at hq2; cases hq2
    obtain ⟨g1, g2, g3⟩ := s3.fresh hq2
    have s4 := s3.keep (o := .lst (List.replicate k [D.int 0]).flatten) g1 g2 g3
    have S2 : OL G a q2 as (Q2 is k r) (put (put (put G2 a o3) q1 (.lst (List.replicate k [D.non]).flatten)) q2 (.lst (List.replicate k [D.int 0]).flatten)) := ⟨g1, g2, g3, _, put_same, rep_len, fun x hx => ⟨0, rep_mem hx, by omega, by omega⟩, fun j hj _ => (rep_get hj).1⟩
    have S1' := S1.keep (o := .lst (List.replicate k [D.int 0]).flatten) n12.symm
    have same0 : ∀ b ∈ as, put (put (put G2 a o3) q1 (.lst (List.replicate k [D.non]).flatten)) q2 (.lst (List.replicate k [D.int 0]).flatten) b = (put G2 a o3) b := fun b hb => by
      rw [put_ne (fun z => g2 (by subst z; exact hb)), put_ne (fun z => f2 (by subst z; exact hb))]
    revert s4 S2 S1' same0
    generalize put (put (put G2 a o3) q1 (.lst (List.replicate k [D.non]).flatten)) q2 (.lst (List.replicate k [D.int 0]).flatten) = G4
    have rows0 := s2.rows
    revert c2 rows0
    generalize put G2 a o3 = G0
    intro c2 rows0 s4 S2 S1' same0
    simp only [b_heap_7, mSeq, mIfS, mAsg, mRet, mRetN, mDrop, mTest, mOp, mC, mVar, mSetI, mNext, mCB, mCons, mNil, mAndT, mOrT, mNotT, mTruT, mIf, mNeg, mOr, mAnd, mNot, mLst, mTup, mBM, mBM0, mPar, mCall, mCallK, mLstRg1, mTupRg1, mRng1, mRng2, mEnum, mZipT, mFor, mSl, mNoPart, mPart, mLc, wipeM, List.set_cons_zero, List.set_cons_succ, startM, List.map_cons, List.map_nil, List.cons_append, List.nil_append, List.length_cons, List.length_nil, List.replicate, List.getElem?_cons_zero, List.getElem?_cons_succ, Option.some.injEq, Nat.reduceSub, Nat.reduceAdd, true_and, exists_eq_left, exists_eq_left', e_ix_tup, e_ix_lst, e_ix_fz, e_ix_ref, e_lo_lst, e_lo_fz, e_lo_ref, e_so_lst, e_so_fz, e_so_tup, e_so_ref, e_hd_lst, e_hd_ref, e_add_int, e_add_str, e_add_tup, e_add_lst, e_sub_int, e_mul_int, e_mul_lst, e_mul_tup, e_mod_int, e_fdv_int, e_pow_int, e_lt_int, e_le_int, e_gt_int, e_ge_int, e_eq_int, e_ne_int, e_eq_str, e_ne_str, e_isN, e_notN, e_isN_non, e_isN_int, e_isN_tup, e_isN_str, e_isN_ref, e_isN_lst, e_abs, e_max2, e_min2, e_int_int, e_int_bl, e_str_int, e_str_str, e_str_non, e_len_str, e_len_tup, e_len_lst, e_len_fz, e_len_ref, e_list_tup, e_list_lst, e_list_fz, e_list_ref, e_tupl_tup, e_tupl_lst, e_tupl_ref, e_newT, e_newF, e_run_nm, e_run_tp, e_runs_nil, e_runs_cons, e_tru_bl, e_tru_int, e_tru_str, e_tru_lst, e_tru_tup, e_ty_str, e_ty_lst, e_ty_ref, e_append, e_insert, e_popAt, e_pop0, e_join, e_seqI_val, e_cut_str, e_cut_tup, e_cut_lst, e_cut_fz, e_cut_ref]
    refine ⟨⟨by omega, by omega⟩, loop_ind (fun i τ G' => (∃ v8 v9, τ = [some (.ref a), some (.int n), some (.int r), some (.lst (as.map D.ref)), some (.int t), some (.lst (is.map D.int)), some (.ref q1), some (.ref q2), v8, v9]) ∧ LS G a (RefOk r) 40 (m + 1100 + 2 * i) as G' ∧ OL G a q1 as (Q1 G0 as is k i) G' ∧ OL G a q2 as (Q2 is k r) G' ∧ ∀ b ∈ as, G' b = G0 b) ?_ ?_ ⟨⟨_, _, rfl⟩, s4.mono (Nat.le_refl _) (by omega), S1', S2, same0⟩⟩
    · rintro i w τ G' N hw ⟨⟨v8, v9, rfl⟩, s, S1, S2, same⟩ hN
      obtain ⟨hi, rfl⟩ := rng_at hw
      have hi' : i < r := by simpa using hi
      refine ⟨trivial, ?_⟩
      rw [show (0 : Int) + (i : Nat) = ((i : Nat) : Int) by omega]
      simp only [b_heap_8, mSeq, mIfS, mAsg, mRet, mRetN, mDrop, mTest, mOp, mC, mVar, mSetI, mNext, mCB, mCons, mNil, mAndT, mOrT, mNotT, mTruT, mIf, mNeg, mOr, mAnd, mNot, mLst, mTup, mBM, mBM0, mPar, mCall, mCallK, mLstRg1, mTupRg1, mRng1, mRng2, mEnum, mZipT, mFor, mSl, mNoPart, mPart, mLc, wipeM, List.set_cons_zero, List.set_cons_succ, startM, List.map_cons, List.map_nil, List.cons_append, List.nil_append, List.length_cons, List.length_nil, List.replicate, List.getElem?_cons_zero, List.getElem?_cons_succ, Option.some.injEq, Nat.reduceSub, Nat.reduceAdd, true_and, exists_eq_left, exists_eq_left', e_ix_tup, e_ix_lst, e_ix_fz, e_ix_ref, e_lo_lst, e_lo_fz, e_lo_ref, e_so_lst, e_so_fz, e_so_tup, e_so_ref, e_hd_lst, e_hd_ref, e_add_int, e_add_str, e_add_tup, e_add_lst, e_sub_int, e_mul_int, e_mul_lst, e_mul_tup, e_mod_int, e_fdv_int, e_pow_int, e_lt_int, e_le_int, e_gt_int, e_ge_int, e_eq_int, e_ne_int, e_eq_str, e_ne_str, e_isN, e_notN, e_isN_non, e_isN_int, e_isN_tup, e_isN_str, e_isN_ref, e_isN_lst, e_abs, e_max2, e_min2, e_int_int, e_int_bl, e_str_int, e_str_str, e_str_non, e_len_str, e_len_tup, e_len_lst, e_len_fz, e_len_ref, e_list_tup, e_list_lst, e_list_fz, e_list_ref, e_tupl_tup, e_tupl_lst, e_tupl_ref, e_newT, e_newF, e_run_nm, e_run_tp, e_runs_nil, e_runs_cons, e_tru_bl, e_tru_int, e_tru_str, e_tru_lst, e_tru_tup, e_ty_str, e_ty_lst, e_ty_ref, e_append, e_insert, e_popAt, e_pop0, e_join, e_seqI_val, e_cut_str, e_cut_tup, e_cut_lst, e_cut_fz, e_cut_ref]
      have hia : i < as.length := by omega
      have hmem : as[i] ∈ as := List.getElem_mem _
      have hb : atI (as.map D.ref) ((i : Nat) : Int) = some (.ref as[i]) := by
        obtain ⟨w, hw, _, hg⟩ := at_in (xs := as.map D.ref) (i := (i : Nat)) (by omega) (by rw [List.length_map]; omega)
        rw [Int.toNat_natCast, List.getElem?_map, List.getElem?_eq_getElem hia] at hg
        rw [hw]; exact hg.symm
      refine ⟨_, _, rfl, hb, ?_⟩
      simp only [mSeq, mIfS, mAsg, mRet, mRetN, mDrop, mTest, mOp, mC, mVar, mSetI, mNext, mCB, mCons, mNil, mAndT, mOrT, mNotT, mTruT, mIf, mNeg, mOr, mAnd, mNot, mLst, mTup, mBM, mBM0, mPar, mCall, mCallK, mLstRg1, mTupRg1, mRng1, mRng2, mEnum, mZipT, mFor, mSl, mNoPart, mPart, mLc, wipeM, List.set_cons_zero, List.set_cons_succ, startM, List.map_cons, List.map_nil, List.cons_append, List.nil_append, List.length_cons, List.length_nil, List.replicate, List.getElem?_cons_zero, List.getElem?_cons_succ, Option.some.injEq, Nat.reduceSub, Nat.reduceAdd, true_and, exists_eq_left, exists_eq_left', e_ix_tup, e_ix_lst, e_ix_fz, e_ix_ref, e_lo_lst, e_lo_fz, e_lo_ref, e_so_lst, e_so_fz, e_so_tup, e_so_ref, e_hd_lst, e_hd_ref, e_add_int, e_add_str, e_add_tup, e_add_lst, e_sub_int, e_mul_int, e_mul_lst, e_mul_tup, e_mod_int, e_fdv_int, e_pow_int, e_lt_int, e_le_int, e_gt_int, e_ge_int, e_eq_int, e_ne_int, e_eq_str, e_ne_str, e_isN, e_notN, e_isN_non, e_isN_int, e_isN_tup, e_isN_str, e_isN_ref, e_isN_lst, e_abs, e_max2, e_min2, e_int_int, e_int_bl, e_str_int, e_str_str, e_str_non, e_len_str, e_len_tup, e_len_lst, e_len_fz, e_len_ref, e_list_tup, e_list_lst, e_list_fz, e_list_ref, e_tupl_tup, e_tupl_lst, e_tupl_ref, e_newT, e_newF, e_run_nm, e_run_tp, e_runs_nil, e_runs_cons, e_tru_bl, e_tru_int, e_tru_str, e_tru_lst, e_tru_tup, e_ty_str, e_ty_lst, e_ty_ref, e_append, e_insert, e_popAt, e_pop0, e_join, e_seqI_val, e_cut_str, e_cut_tup, e_cut_lst, e_cut_fz, e_cut_ref]
      obtain ⟨row, e, hr⟩ := s.rows as[i] hmem
      have hr1 := hr.1
      have e0 : G0 as[i] = some (.lst row) := by rw [← same _ hmem]; exact e
      have nr : newRow G0 as is i = .tup (row.map (reName is)) := by unfold newRow; rw [as_at hia, rowOf_eq e0]
      refine ⟨row, e, comp_map (reName is) (by have := sizeLine_eq; omega) e (fun x rr hx hq => ?_) ?_⟩
      · simp only [mSeq, mIfS, mAsg, mRet, mRetN, mDrop, mTest, mOp, mC, mVar, mSetI, mNext, mCB, mCons, mNil, mAndT, mOrT, mNotT, mTruT, mIf, mNeg, mOr, mAnd, mNot, mLst, mTup, mBM, mBM0, mPar, mCall, mCallK, mLstRg1, mTupRg1, mRng1, mRng2, mEnum, mZipT, mFor, mSl, mNoPart, mPart, mLc, wipeM, List.set_cons_zero, List.set_cons_succ, startM, List.map_cons, List.map_nil, List.cons_append, List.nil_append, List.length_cons, List.length_nil, List.replicate, List.getElem?_cons_zero, List.getElem?_cons_succ, Option.some.injEq, Nat.reduceSub, Nat.reduceAdd, true_and, exists_eq_left, exists_eq_left', e_ix_tup, e_ix_lst, e_ix_fz, e_ix_ref, e_lo_lst, e_lo_fz, e_lo_ref, e_so_lst, e_so_fz, e_so_tup, e_so_ref, e_hd_lst, e_hd_ref, e_add_int, e_add_str, e_add_tup, e_add_lst, e_sub_int, e_mul_int, e_mul_lst, e_mul_tup, e_mod_int, e_fdv_int, e_pow_int, e_lt_int, e_le_int, e_gt_int, e_ge_int, e_eq_int, e_ne_int, e_eq_str, e_ne_str, e_isN, e_notN, e_isN_non, e_isN_int, e_isN_tup, e_isN_str, e_isN_ref, e_isN_lst, e_abs, e_max2, e_min2, e_int_int, e_int_bl, e_str_int, e_str_str, e_str_non, e_len_str, e_len_tup, e_len_lst, e_len_fz, e_len_ref, e_list_tup, e_list_lst, e_list_fz, e_list_ref, e_tupl_tup, e_tupl_lst, e_tupl_ref, e_newT, e_newF, e_run_nm, e_run_tp, e_runs_nil, e_runs_cons, e_tru_bl, e_tru_int, e_tru_str, e_tru_lst, e_tru_tup, e_ty_str, e_ty_lst, e_ty_ref, e_append, e_insert, e_popAt, e_pop0, e_join, e_seqI_val, e_cut_str, e_cut_tup, e_cut_lst, e_cut_fz, e_cut_ref]
        rcases hr.2 x hx with rfl | ⟨j, rfl, j0, j1⟩
        · simp only [mSeq, mIfS, mAsg, mRet, mRetN, mDrop, mTest, mOp, mC, mVar, mSetI, mNext, mCB, mCons, mNil, mAndT, mOrT, mNotT, mTruT, mIf, mNeg, mOr, mAnd, mNot, mLst, mTup, mBM, mBM0, mPar, mCall, mCallK, mLstRg1, mTupRg1, mRng1, mRng2, mEnum, mZipT, mFor, mSl, mNoPart, mPart, mLc, wipeM, List.set_cons_zero, List.set_cons_succ, startM, List.map_cons, List.map_nil, List.cons_append, List.nil_append, List.length_cons, List.length_nil, List.replicate, List.getElem?_cons_zero, List.getElem?_cons_succ, Option.some.injEq, Nat.reduceSub, Nat.reduceAdd, true_and, exists_eq_left, exists_eq_left', e_ix_tup, e_ix_lst, e_ix_fz, e_ix_ref, e_lo_lst, e_lo_fz, e_lo_ref, e_so_lst, e_so_fz, e_so_tup, e_so_ref, e_hd_lst, e_hd_ref, e_add_int, e_add_str, e_add_tup, e_add_lst, e_sub_int, e_mul_int, e_mul_lst, e_mul_tup, e_mod_int, e_fdv_int, e_pow_int, e_lt_int, e_le_int, e_gt_int, e_ge_int, e_eq_int, e_ne_int, e_eq_str, e_ne_str, e_isN, e_notN, e_isN_non, e_isN_int, e_isN_tup, e_isN_str, e_isN_ref, e_isN_lst, e_abs, e_max2, e_min2, e_int_int, e_int_bl, e_str_int, e_str_str, e_str_non, e_len_str, e_len_tup, e_len_lst, e_len_fz, e_len_ref, e_list_tup, e_list_lst, e_list_fz, e_list_ref, e_tupl_tup, e_tupl_lst, e_tupl_ref, e_newT, e_newF, e_run_nm, e_run_tp, e_runs_nil, e_runs_cons, e_tru_bl, e_tru_int, e_tru_str, e_tru_lst, e_tru_tup, e_ty_str, e_ty_lst, e_ty_ref, e_append, e_insert, e_popAt, e_pop0, e_join, e_seqI_val, e_cut_str, e_cut_tup, e_cut_lst, e_cut_fz, e_cut_ref]; exact hq
        · simp only [mSeq, mIfS, mAsg, mRet, mRetN, mDrop, mTest, mOp, mC, mVar, mSetI, mNext, mCB, mCons, mNil, mAndT, mOrT, mNotT, mTruT, mIf, mNeg, mOr, mAnd, mNot, mLst, mTup, mBM, mBM0, mPar, mCall, mCallK, mLstRg1, mTupRg1, mRng1, mRng2, mEnum, mZipT, mFor, mSl, mNoPart, mPart, mLc, wipeM, List.set_cons_zero, List.set_cons_succ, startM, List.map_cons, List.map_nil, List.cons_append, List.nil_append, List.length_cons, List.length_nil, List.replicate, List.getElem?_cons_zero, List.getElem?_cons_succ, Option.some.injEq, Nat.reduceSub, Nat.reduceAdd, true_and, exists_eq_left, exists_eq_left', e_ix_tup, e_ix_lst, e_ix_fz, e_ix_ref, e_lo_lst, e_lo_fz, e_lo_ref, e_so_lst, e_so_fz, e_so_tup, e_so_ref, e_hd_lst, e_hd_ref, e_add_int, e_add_str, e_add_tup, e_add_lst, e_sub_int, e_mul_int, e_mul_lst, e_mul_tup, e_mod_int, e_fdv_int, e_pow_int, e_lt_int, e_le_int, e_gt_int, e_ge_int, e_eq_int, e_ne_int, e_eq_str, e_ne_str, e_isN, e_notN, e_isN_non, e_isN_int, e_isN_tup, e_isN_str, e_isN_ref, e_isN_lst, e_abs, e_max2, e_min2, e_int_int, e_int_bl, e_str_int, e_str_str, e_str_non, e_len_str, e_len_tup, e_len_lst, e_len_fz, e_len_ref, e_list_tup, e_list_lst, e_list_fz, e_list_ref, e_tupl_tup, e_tupl_lst, e_tupl_ref, e_newT, e_newF, e_run_nm, e_run_tp, e_runs_nil, e_runs_cons, e_tru_bl, e_tru_int, e_tru_str, e_tru_lst, e_tru_tup, e_ty_str, e_ty_lst, e_ty_ref, e_append, e_insert, e_popAt, e_pop0, e_join, e_seqI_val, e_cut_str, e_cut_tup, e_cut_lst, e_cut_fz, e_cut_ref]
          obtain ⟨u, rfl⟩ : ∃ u : Nat, j = (u : Nat) := ⟨j.toNat, by omega⟩
          have hz := (nm_at (v := u) iin (by omega)).1
          refine ⟨_, _, rfl, hz, ?_⟩
          rwa [reName_int hz] at hq
      · obtain ⟨hz, hzk⟩ := nm_at (v := i) iin (by omega)
        refine ⟨_, _, rfl, hz, ?_⟩
        obtain ⟨sl, es, ql⟩ := S1.s
        refine ⟨sl, nmN is i, es, by rw [ixN_in (by omega) (by rw [ql.len]; omega)]; simp, ?_⟩
        have T1 := S1.set (ql.step iin ind il (by omega))
        rw [nr] at T1
        have T2 := S2.keep (o := .lst (sl.set (nmN is i) (.tup (row.map (reName is))))) n12
        have T := s.keep (o := .lst (sl.set (nmN is i) (.tup (row.map (reName is))))) S1.na S1.nm S1.g
        have same2 : ∀ b ∈ as, put G' q1 (.lst (sl.set (nmN is i) (.tup (row.map (reName is))))) b = G0 b := fun b hb => by rw [put_ne (fun z => S1.nm (by subst z; exact hb))]; exact same b hb
        revert T1 T2 T same2
        generalize put G' q1 (.lst (sl.set (nmN is i) (.tup (row.map (reName is))))) = G5
        intro T1 T2 T same2
        simp only [b_heap_9, mSeq, mIfS, mAsg, mRet, mRetN, mDrop, mTest, mOp, mC, mVar, mSetI, mNext, mCB, mCons, mNil, mAndT, mOrT, mNotT, mTruT, mIf, mNeg, mOr, mAnd, mNot, mLst, mTup, mBM, mBM0, mPar, mCall, mCallK, mLstRg1, mTupRg1, mRng1, mRng2, mEnum, mZipT, mFor, mSl, mNoPart, mPart, mLc, wipeM, List.set_cons_zero, List.set_cons_succ, startM, List.map_cons, List.map_nil, List.cons_append, List.nil_append, List.length_cons, List.length_nil, List.replicate, List.getElem?_cons_zero, List.getElem?_cons_succ, Option.some.injEq, Nat.reduceSub, Nat.reduceAdd, true_and, exists_eq_left, exists_eq_left', e_ix_tup, e_ix_lst, e_ix_fz, e_ix_ref, e_lo_lst, e_lo_fz, e_lo_ref, e_so_lst, e_so_fz, e_so_tup, e_so_ref, e_hd_lst, e_hd_ref, e_add_int, e_add_str, e_add_tup, e_add_lst, e_sub_int, e_mul_int, e_mul_lst, e_mul_tup, e_mod_int, e_fdv_int, e_pow_int, e_lt_int, e_le_int, e_gt_int, e_ge_int, e_eq_int, e_ne_int, e_eq_str, e_ne_str, e_isN, e_notN, e_isN_non, e_isN_int, e_isN_tup, e_isN_str, e_isN_ref, e_isN_lst, e_abs, e_max2, e_min2, e_int_int, e_int_bl, e_str_int, e_str_str, e_str_non, e_len_str, e_len_tup, e_len_lst, e_len_fz, e_len_ref, e_list_tup, e_list_lst, e_list_fz, e_list_ref, e_tupl_tup, e_tupl_lst, e_tupl_ref, e_newT, e_newF, e_run_nm, e_run_tp, e_runs_nil, e_runs_cons, e_tru_bl, e_tru_int, e_tru_str, e_tru_lst, e_tru_tup, e_ty_str, e_ty_lst, e_ty_ref, e_append, e_insert, e_popAt, e_pop0, e_join, e_seqI_val, e_cut_str, e_cut_tup, e_cut_lst, e_cut_fz, e_cut_ref]
        have skip : N [some (.ref a), some (.int n), some (.int r), some (.lst (as.map D.ref)), some (.int t), some (.lst (is.map D.int)), some (.ref q1), some (.ref q2), some (.int (i : Nat)), v9] G5 := hN _ _ ⟨⟨_, _, rfl⟩, T.mono (Nat.le_refl _) (by omega), T1, T2, same2⟩
        have nba : ∀ b ∈ as, b ≠ a := fun b hb z => T.na (by subst z; exact hb)
        by_cases hv : (0 : Int) < (i : Nat)
        · simp only [hv, decide_true, e_sp_draw, mSeq, mIfS, mAsg, mRet, mRetN, mDrop, mTest, mOp, mC, mVar, mSetI, mNext, mCB, mCons, mNil, mAndT, mOrT, mNotT, mTruT, mIf, mNeg, mOr, mAnd, mNot, mLst, mTup, mBM, mBM0, mPar, mCall, mCallK, mLstRg1, mTupRg1, mRng1, mRng2, mEnum, mZipT, mFor, mSl, mNoPart, mPart, mLc, wipeM, List.set_cons_zero, List.set_cons_succ, startM, List.map_cons, List.map_nil, List.cons_append, List.nil_append, List.length_cons, List.length_nil, List.replicate, List.getElem?_cons_zero, List.getElem?_cons_succ, Option.some.injEq, Nat.reduceSub, Nat.reduceAdd, true_and, exists_eq_left, exists_eq_left', e_ix_tup, e_ix_lst, e_ix_fz, e_ix_ref, e_lo_lst, e_lo_fz, e_lo_ref, e_so_lst, e_so_fz, e_so_tup, e_so_ref, e_hd_lst, e_hd_ref, e_add_int, e_add_str, e_add_tup, e_add_lst, e_sub_int, e_mul_int, e_mul_lst, e_mul_tup, e_mod_int, e_fdv_int, e_pow_int, e_lt_int, e_le_int, e_gt_int, e_ge_int, e_eq_int, e_ne_int, e_eq_str, e_ne_str, e_isN, e_notN, e_isN_non, e_isN_int, e_isN_tup, e_isN_str, e_isN_ref, e_isN_lst, e_abs, e_max2, e_min2, e_int_int, e_int_bl, e_str_int, e_str_str, e_str_non, e_len_str, e_len_tup, e_len_lst, e_len_fz, e_len_ref, e_list_tup, e_list_lst, e_list_fz, e_list_ref, e_tupl_tup, e_tupl_lst, e_tupl_ref, e_newT, e_newF, e_run_nm, e_run_tp, e_runs_nil, e_runs_cons, e_tru_bl, e_tru_int, e_tru_str, e_tru_lst, e_tru_tup, e_ty_str, e_ty_lst, e_ty_ref, e_append, e_insert, e_popAt, e_pop0, e_join, e_seqI_val, e_cut_str, e_cut_tup, e_cut_lst, e_cut_fz, e_cut_ref]
          obtain ⟨o', ea, p'⟩ := T.pen
          refine draw_at (E := noX) ea p' (by omega) (by omega) (by omega) fun y o5 y0 y1 p5 => ?_
          have T' := T.draw p5
          have T1' := T1.keep (o := o5) S1.na.symm
          have T2' := T2.keep (o := o5) S2.na.symm
          have same3 : ∀ b ∈ as, put G5 a o5 b = G0 b := fun b hb => by rw [put_ne (nba b hb)]; exact same2 b hb
          simp only [mSeq, mIfS, mAsg, mRet, mRetN, mDrop, mTest, mOp, mC, mVar, mSetI, mNext, mCB, mCons, mNil, mAndT, mOrT, mNotT, mTruT, mIf, mNeg, mOr, mAnd, mNot, mLst, mTup, mBM, mBM0, mPar, mCall, mCallK, mLstRg1, mTupRg1, mRng1, mRng2, mEnum, mZipT, mFor, mSl, mNoPart, mPart, mLc, wipeM, List.set_cons_zero, List.set_cons_succ, startM, List.map_cons, List.map_nil, List.cons_append, List.nil_append, List.length_cons, List.length_nil, List.replicate, List.getElem?_cons_zero, List.getElem?_cons_succ, Option.some.injEq, Nat.reduceSub, Nat.reduceAdd, true_and, exists_eq_left, exists_eq_left', e_ix_tup, e_ix_lst, e_ix_fz, e_ix_ref, e_lo_lst, e_lo_fz, e_lo_ref, e_so_lst, e_so_fz, e_so_tup, e_so_ref, e_hd_lst, e_hd_ref, e_add_int, e_add_str, e_add_tup, e_add_lst, e_sub_int, e_mul_int, e_mul_lst, e_mul_tup, e_mod_int, e_fdv_int, e_pow_int, e_lt_int, e_le_int, e_gt_int, e_ge_int, e_eq_int, e_ne_int, e_eq_str, e_ne_str, e_isN, e_notN, e_isN_non, e_isN_int, e_isN_tup, e_isN_str, e_isN_ref, e_isN_lst, e_abs, e_max2, e_min2, e_int_int, e_int_bl, e_str_int, e_str_str, e_str_non, e_len_str, e_len_tup, e_len_lst, e_len_fz, e_len_ref, e_list_tup, e_list_lst, e_list_fz, e_list_ref, e_tupl_tup, e_tupl_lst, e_tupl_ref, e_newT, e_newF, e_run_nm, e_run_tp, e_runs_nil, e_runs_cons, e_tru_bl, e_tru_int, e_tru_str, e_tru_lst, e_tru_tup, e_ty_str, e_ty_lst, e_ty_ref, e_append, e_insert, e_popAt, e_pop0, e_join, e_seqI_val, e_cut_str, e_cut_tup, e_cut_lst, e_cut_fz, e_cut_ref]
          by_cases hy : y = 0
          · simp only [hy, decide_true, b_heap_10, e_sp_draw, mSeq, mIfS, mAsg, mRet, mRetN, mDrop, mTest, mOp, mC, mVar, mSetI, mNext, mCB, mCons, mNil, mAndT, mOrT, mNotT, mTruT, mIf, mNeg, mOr, mAnd, mNot, mLst, mTup, mBM, mBM0, mPar, mCall, mCallK, mLstRg1, mTupRg1, mRng1, mRng2, mEnum, mZipT, mFor, mSl, mNoPart, mPart, mLc, wipeM, List.set_cons_zero, List.set_cons_succ, startM, List.map_cons, List.map_nil, List.cons_append, List.nil_append, List.length_cons, List.length_nil, List.replicate, List.getElem?_cons_zero, List.getElem?_cons_succ, Option.some.injEq, Nat.reduceSub, Nat.reduceAdd, true_and, exists_eq_left, exists_eq_left', e_ix_tup, e_ix_lst, e_ix_fz, e_ix_ref, e_lo_lst, e_lo_fz, e_lo_ref, e_so_lst, e_so_fz, e_so_tup, e_so_ref, e_hd_lst, e_hd_ref, e_add_int, e_add_str, e_add_tup, e_add_lst, e_sub_int, e_mul_int, e_mul_lst, e_mul_tup, e_mod_int, e_fdv_int, e_pow_int, e_lt_int, e_le_int, e_gt_int, e_ge_int, e_eq_int, e_ne_int, e_eq_str, e_ne_str, e_isN, e_notN, e_isN_non, e_isN_int, e_isN_tup, e_isN_str, e_isN_ref, e_isN_lst, e_abs, e_max2, e_min2, e_int_int, e_int_bl, e_str_int, e_str_str, e_str_non, e_len_str, e_len_tup, e_len_lst, e_len_fz, e_len_ref, e_list_tup, e_list_lst, e_list_fz, e_list_ref, e_tupl_tup, e_tupl_lst, e_tupl_ref, e_newT, e_newF, e_run_nm, e_run_tp, e_runs_nil, e_runs_cons, e_tru_bl, e_tru_int, e_tru_str, e_tru_lst, e_tru_tup, e_ty_str, e_ty_lst, e_ty_ref, e_append, e_insert, e_popAt, e_pop0, e_join, e_seqI_val, e_cut_str, e_cut_tup, e_cut_lst, e_cut_fz, e_cut_ref]
            refine draw_at (E := noX) put_same p5 (by omega) (by omega) (by omega) fun y2 o6 y20 y21 p6 => ?_
            have U := T'.draw p6
            have U1 := T1'.keep (o := o6) S1.na.symm
            have U2 := T2'.keep (o := o6) S2.na.symm
            simp only [mSeq, mIfS, mAsg, mRet, mRetN, mDrop, mTest, mOp, mC, mVar, mSetI, mNext, mCB, mCons, mNil, mAndT, mOrT, mNotT, mTruT, mIf, mNeg, mOr, mAnd, mNot, mLst, mTup, mBM, mBM0, mPar, mCall, mCallK, mLstRg1, mTupRg1, mRng1, mRng2, mEnum, mZipT, mFor, mSl, mNoPart, mPart, mLc, wipeM, List.set_cons_zero, List.set_cons_succ, startM, List.map_cons, List.map_nil, List.cons_append, List.nil_append, List.length_cons, List.length_nil, List.replicate, List.getElem?_cons_zero, List.getElem?_cons_succ, Option.some.injEq, Nat.reduceSub, Nat.reduceAdd, true_and, exists_eq_left, exists_eq_left', e_ix_tup, e_ix_lst, e_ix_fz, e_ix_ref, e_lo_lst, e_lo_fz, e_lo_ref, e_so_lst, e_so_fz, e_so_tup, e_so_ref, e_hd_lst, e_hd_ref, e_add_int, e_add_str, e_add_tup, e_add_lst, e_sub_int, e_mul_int, e_mul_lst, e_mul_tup, e_mod_int, e_fdv_int, e_pow_int, e_lt_int, e_le_int, e_gt_int, e_ge_int, e_eq_int, e_ne_int, e_eq_str, e_ne_str, e_isN, e_notN, e_isN_non, e_isN_int, e_isN_tup, e_isN_str, e_isN_ref, e_isN_lst, e_abs, e_max2, e_min2, e_int_int, e_int_bl, e_str_int, e_str_str, e_str_non, e_len_str, e_len_tup, e_len_lst, e_len_fz, e_len_ref, e_list_tup, e_list_lst, e_list_fz, e_list_ref, e_tupl_tup, e_tupl_lst, e_tupl_ref, e_newT, e_newF, e_run_nm, e_run_tp, e_runs_nil, e_runs_cons, e_tru_bl, e_tru_int, e_tru_str, e_tru_lst, e_tru_tup, e_ty_str, e_ty_lst, e_ty_ref, e_append, e_insert, e_popAt, e_pop0, e_join, e_seqI_val, e_cut_str, e_cut_tup, e_cut_lst, e_cut_fz, e_cut_ref]
            refine ⟨_, _, rfl, hz, ?_⟩
            obtain ⟨sl2, es2, ql2⟩ := U2.s
            refine ⟨sl2, nmN is i, es2, by rw [ixN_in (by omega) (by rw [ql2.len]; omega)]; simp, hN _ _ ⟨⟨_, _, rfl⟩, (U.keep S2.na S2.nm S2.g).mono (Nat.le_refl _) (by omega), U1.keep n12.symm, U2.set (ql2.step hi' ⟨_, rfl, by omega, by omega⟩), fun b hb => ?_⟩⟩
            rw [put_ne (fun z => S2.nm (by subst z; exact hb)), put_ne (nba b hb)]; exact same3 b hb
          · simp only [hy, decide_false, mSeq, mIfS, mAsg, mRet, mRetN, mDrop, mTest, mOp, mC, mVar, mSetI, mNext, mCB, mCons, mNil, mAndT, mOrT, mNotT, mTruT, mIf, mNeg, mOr, mAnd, mNot, mLst, mTup, mBM, mBM0, mPar, mCall, mCallK, mLstRg1, mTupRg1, mRng1, mRng2, mEnum, mZipT, mFor, mSl, mNoPart, mPart, mLc, wipeM, List.set_cons_zero, List.set_cons_succ, startM, List.map_cons, List.map_nil, List.cons_append, List.nil_append, List.length_cons, List.length_nil, List.replicate, List.getElem?_cons_zero, List.getElem?_cons_succ, Option.some.injEq, Nat.reduceSub, Nat.reduceAdd, true_and, exists_eq_left, exists_eq_left', e_ix_tup, e_ix_lst, e_ix_fz, e_ix_ref, e_lo_lst, e_lo_fz, e_lo_ref, e_so_lst, e_so_fz, e_so_tup, e_so_ref, e_hd_lst, e_hd_ref, e_add_int, e_add_str, e_add_tup, e_add_lst, e_sub_int, e_mul_int, e_mul_lst, e_mul_tup, e_mod_int, e_fdv_int, e_pow_int, e_lt_int, e_le_int, e_gt_int, e_ge_int, e_eq_int, e_ne_int, e_eq_str, e_ne_str, e_isN, e_notN, e_isN_non, e_isN_int, e_isN_tup, e_isN_str, e_isN_ref, e_isN_lst, e_abs, e_max2, e_min2, e_int_int, e_int_bl, e_str_int, e_str_str, e_str_non, e_len_str, e_len_tup, e_len_lst, e_len_fz, e_len_ref, e_list_tup, e_list_lst, e_list_fz, e_list_ref, e_tupl_tup, e_tupl_lst, e_tupl_ref, e_newT, e_newF, e_run_nm, e_run_tp, e_runs_nil, e_runs_cons, e_tru_bl, e_tru_int, e_tru_str, e_tru_lst, e_tru_tup, e_ty_str, e_ty_lst, e_ty_ref, e_append, e_insert, e_popAt, e_pop0, e_join, e_seqI_val, e_cut_str, e_cut_tup, e_cut_lst, e_cut_fz, e_cut_ref]
            exact hN _ _ ⟨⟨_, _, rfl⟩, T'.mono (Nat.le_refl _) (by omega), T1', T2', same3⟩
        · simp only [hv, decide_false, mSeq, mIfS, mAsg, mRet, mRetN, mDrop, mTest, mOp, mC, mVar, mSetI, mNext, mCB, mCons, mNil, mAndT, mOrT, mNotT, mTruT, mIf, mNeg, mOr, mAnd, mNot, mLst, mTup, mBM, mBM0, mPar, mCall, mCallK, mLstRg1, mTupRg1, mRng1, mRng2, mEnum, mZipT, mFor, mSl, mNoPart, mPart, mLc, wipeM, List.set_cons_zero, List.set_cons_succ, startM, List.map_cons, List.map_nil, List.cons_append, List.nil_append, List.length_cons, List.length_nil, List.replicate, List.getElem?_cons_zero, List.getElem?_cons_succ, Option.some.injEq, Nat.reduceSub, Nat.reduceAdd, true_and, exists_eq_left, exists_eq_left', e_ix_tup, e_ix_lst, e_ix_fz, e_ix_ref, e_lo_lst, e_lo_fz, e_lo_ref, e_so_lst, e_so_fz, e_so_tup, e_so_ref, e_hd_lst, e_hd_ref, e_add_int, e_add_str, e_add_tup, e_add_lst, e_sub_int, e_mul_int, e_mul_lst, e_mul_tup, e_mod_int, e_fdv_int, e_pow_int, e_lt_int, e_le_int, e_gt_int, e_ge_int, e_eq_int, e_ne_int, e_eq_str, e_ne_str, e_isN, e_notN, e_isN_non, e_isN_int, e_isN_tup, e_isN_str, e_isN_ref, e_isN_lst, e_abs, e_max2, e_min2, e_int_int, e_int_bl, e_str_int, e_str_str, e_str_non, e_len_str, e_len_tup, e_len_lst, e_len_fz, e_len_ref, e_list_tup, e_list_lst, e_list_fz, e_list_ref, e_tupl_tup, e_tupl_lst, e_tupl_ref, e_newT, e_newF, e_run_nm, e_run_tp, e_runs_nil, e_runs_cons, e_tru_bl, e_tru_int, e_tru_str, e_tru_lst, e_tru_tup, e_ty_str, e_ty_lst, e_ty_ref, e_append, e_insert, e_popAt, e_pop0, e_join, e_seqI_val, e_cut_str, e_cut_tup, e_cut_lst, e_cut_fz, e_cut_ref]
          exact skip
    · rintro τ G' ⟨⟨v8, v9, rfl⟩, s, S1, S2, same⟩
      rw [rng_len] at s S1
      rw [show ((r : Int)).toNat = r by omega] at S1
      refine ⟨trivial, ?_⟩
      simp only [b_heap_11, e_sp_draw, mSeq, mIfS, mAsg, mRet, mRetN, mDrop, mTest, mOp, mC, mVar, mSetI, mNext, mCB, mCons, mNil, mAndT, mOrT, mNotT, mTruT, mIf, mNeg, mOr, mAnd, mNot, mLst, mTup, mBM, mBM0, mPar, mCall, mCallK, mLstRg1, mTupRg1, mRng1, mRng2, mEnum, mZipT, mFor, mSl, mNoPart, mPart, mLc, wipeM, List.set_cons_zero, List.set_cons_succ, startM, List.map_cons, List.map_nil, List.cons_append, List.nil_append, List.length_cons, List.length_nil, List.replicate, List.getElem?_cons_zero, List.getElem?_cons_succ, Option.some.injEq, Nat.reduceSub, Nat.reduceAdd, true_and, exists_eq_left, exists_eq_left', e_ix_tup, e_ix_lst, e_ix_fz, e_ix_ref, e_lo_lst, e_lo_fz, e_lo_ref, e_so_lst, e_so_fz, e_so_tup, e_so_ref, e_hd_lst, e_hd_ref, e_add_int, e_add_str, e_add_tup, e_add_lst, e_sub_int, e_mul_int, e_mul_lst, e_mul_tup, e_mod_int, e_fdv_int, e_pow_int, e_lt_int, e_le_int, e_gt_int, e_ge_int, e_eq_int, e_ne_int, e_eq_str, e_ne_str, e_isN, e_notN, e_isN_non, e_isN_int, e_isN_tup, e_isN_str, e_isN_ref, e_isN_lst, e_abs, e_max2, e_min2, e_int_int, e_int_bl, e_str_int, e_str_str, e_str_non, e_len_str, e_len_tup, e_len_lst, e_len_fz, e_len_ref, e_list_tup, e_list_lst, e_list_fz, e_list_ref, e_tupl_tup, e_tupl_lst, e_tupl_ref, e_newT, e_newF, e_run_nm, e_run_tp, e_runs_nil, e_runs_cons, e_tru_bl, e_tru_int, e_tru_str, e_tru_lst, e_tru_tup, e_ty_str, e_ty_lst, e_ty_ref, e_append, e_insert, e_popAt, e_pop0, e_join, e_seqI_val, e_cut_str, e_cut_tup, e_cut_lst, e_cut_fz, e_cut_ref]
      refine ⟨by decide, ?_⟩
      obtain ⟨o', ea, p'⟩ := s.pen
      refine draw_at (E := noX) ea p' (by omega) (by omega) (by omega) fun y o5 y0 y1 p5 => ?_
      have T' := s.draw p5
      have T1' := S1.keep (o := o5) S1.na.symm
      have T2' := S2.keep (o := o5) S2.na.symm
      obtain ⟨hz, hzk⟩ := nm_at (v := 0) iin (by omega)
      have go : ∀ c : Int, 1 ≤ c → c ≤ 9 → ∃ xs j, put G' a o5 q2 = some (.lst xs) ∧ ixN xs.length (nmN is 0 : Nat) = some j ∧ b_heap_12 { nx := fun x G' => less q D.non G', rt := less q } [some (.ref a), some (.int n), some (.int r), some (.lst (as.map D.ref)), some (.int t), some (.lst (is.map D.int)), some (.ref q1), some (.ref q2), v8, v9] (put (put G' a o5) q2 (.lst (xs.set j (.int c)))) := by
        intro c c0 c1
        obtain ⟨sl2, es2, ql2⟩ := T2'.s
        refine ⟨sl2, nmN is 0, es2, by rw [ixN_in (by omega) (by rw [ql2.len]; omega)]; simp, ?_⟩
        have V := T'.keep (o := .lst (sl2.set (nmN is 0) (.int c))) S2.na S2.nm S2.g
        have V1 := T1'.keep (o := .lst (sl2.set (nmN is 0) (.int c))) n12.symm
        have q2' := ql2.step (v := 0) (by omega) (x := .int c) ⟨c, rfl, by omega, c1⟩
        have root : (sl2.set (nmN is 0) (.int c))[nmN is 0]? = some (.int c) := List.getElem?_set_self (by rw [ql2.len]; exact hzk)
        have e2 : put (put G' a o5) q2 (.lst (sl2.set (nmN is 0) (.int c))) q2 = some (.lst (sl2.set (nmN is 0) (.int c))) := put_same
        revert V V1 e2
        generalize put (put G' a o5) q2 (.lst (sl2.set (nmN is 0) (.int c))) = G6
        intro V V1 e2
        obtain ⟨sa, ea1, ql1⟩ := V1.s
        obtain ⟨hh, hc⟩ := heap_right ql1 q2' iin ind il r1 (by omega) (by omega) hl rows0 c2 ⟨c, root, c0⟩
        simp only [b_heap_12, mSeq, mIfS, mAsg, mRet, mRetN, mDrop, mTest, mOp, mC, mVar, mSetI, mNext, mCB, mCons, mNil, mAndT, mOrT, mNotT, mTruT, mIf, mNeg, mOr, mAnd, mNot, mLst, mTup, mBM, mBM0, mPar, mCall, mCallK, mLstRg1, mTupRg1, mRng1, mRng2, mEnum, mZipT, mFor, mSl, mNoPart, mPart, mLc, wipeM, List.set_cons_zero, List.set_cons_succ, startM, List.map_cons, List.map_nil, List.cons_append, List.nil_append, List.length_cons, List.length_nil, List.replicate, List.getElem?_cons_zero, List.getElem?_cons_succ, Option.some.injEq, Nat.reduceSub, Nat.reduceAdd, true_and, exists_eq_left, exists_eq_left', e_ix_tup, e_ix_lst, e_ix_fz, e_ix_ref, e_lo_lst, e_lo_fz, e_lo_ref, e_so_lst, e_so_fz, e_so_tup, e_so_ref, e_hd_lst, e_hd_ref, e_add_int, e_add_str, e_add_tup, e_add_lst, e_sub_int, e_mul_int, e_mul_lst, e_mul_tup, e_mod_int, e_fdv_int, e_pow_int, e_lt_int, e_le_int, e_gt_int, e_ge_int, e_eq_int, e_ne_int, e_eq_str, e_ne_str, e_isN, e_notN, e_isN_non, e_isN_int, e_isN_tup, e_isN_str, e_isN_ref, e_isN_lst, e_abs, e_max2, e_min2, e_int_int, e_int_bl, e_str_int, e_str_str, e_str_non, e_len_str, e_len_tup, e_len_lst, e_len_fz, e_len_ref, e_list_tup, e_list_lst, e_list_fz, e_list_ref, e_tupl_tup, e_tupl_lst, e_tupl_ref, e_newT, e_newF, e_run_nm, e_run_tp, e_runs_nil, e_runs_cons, e_tru_bl, e_tru_int, e_tru_str, e_tru_lst, e_tru_tup, e_ty_str, e_ty_lst, e_ty_ref, e_append, e_insert, e_popAt, e_pop0, e_join, e_seqI_val, e_cut_str, e_cut_tup, e_cut_lst, e_cut_fz, e_cut_ref]
        refine ⟨sa, ea1, _, e2, by decide, _, _, rfl, hz, by decide, ?_⟩
        obtain ⟨o7, ea7, p7⟩ := V.pen
        exact less_of (V.fin ea7) (kq sa _ _ o7 hh hc (p7.mono (by omega)))
      simp only [mSeq, mIfS, mAsg, mRet, mRetN, mDrop, mTest, mOp, mC, mVar, mSetI, mNext, mCB, mCons, mNil, mAndT, mOrT, mNotT, mTruT, mIf, mNeg, mOr, mAnd, mNot, mLst, mTup, mBM, mBM0, mPar, mCall, mCallK, mLstRg1, mTupRg1, mRng1, mRng2, mEnum, mZipT, mFor, mSl, mNoPart, mPart, mLc, wipeM, List.set_cons_zero, List.set_cons_succ, startM, List.map_cons, List.map_nil, List.cons_append, List.nil_append, List.length_cons, List.length_nil, List.replicate, List.getElem?_cons_zero, List.getElem?_cons_succ, Option.some.injEq, Nat.reduceSub, Nat.reduceAdd, true_and, exists_eq_left, exists_eq_left', e_ix_tup, e_ix_lst, e_ix_fz, e_ix_ref, e_lo_lst, e_lo_fz, e_lo_ref, e_so_lst, e_so_fz, e_so_tup, e_so_ref, e_hd_lst, e_hd_ref, e_add_int, e_add_str, e_add_tup, e_add_lst, e_sub_int, e_mul_int, e_mul_lst, e_mul_tup, e_mod_int, e_fdv_int, e_pow_int, e_lt_int, e_le_int, e_gt_int, e_ge_int, e_eq_int, e_ne_int, e_eq_str, e_ne_str, e_isN, e_notN, e_isN_non, e_isN_int, e_isN_tup, e_isN_str, e_isN_ref, e_isN_lst, e_abs, e_max2, e_min2, e_int_int, e_int_bl, e_str_int, e_str_str, e_str_non, e_len_str, e_len_tup, e_len_lst, e_len_fz, e_len_ref, e_list_tup, e_list_lst, e_list_fz, e_list_ref, e_tupl_tup, e_tupl_lst, e_tupl_ref, e_newT, e_newF, e_run_nm, e_run_tp, e_runs_nil, e_runs_cons, e_tru_bl, e_tru_int, e_tru_str, e_tru_lst, e_tru_tup, e_ty_str, e_ty_lst, e_ty_ref, e_append, e_insert, e_popAt, e_pop0, e_join, e_seqI_val, e_cut_str, e_cut_tup, e_cut_lst, e_cut_fz, e_cut_ref]
      have hy : y = 0 ∨ y = 1 ∨ y = 2 ∨ y = 3 ∨ y = 4 := by omega
      rcases hy with rfl | rfl | rfl | rfl | rfl
      · exact ⟨_, _, rfl, rfl, _, _, rfl, hz, go 1 (by omega) (by omega)⟩
      · exact ⟨_, _, rfl, rfl, _, _, rfl, hz, go 1 (by omega) (by omega)⟩
      · exact ⟨_, _, rfl, rfl, _, _, rfl, hz, go 1 (by omega) (by omega)⟩
      · exact ⟨_, _, rfl, rfl, _, _, rfl, hz, go 2 (by omega) (by omega)⟩
      · exact ⟨_, _, rfl, rfl, _, _, rfl, hz, go 9 (by omega) (by omega)⟩
  simp only [b_heap_3, e_sp_draw, mSeq, mIfS, mAsg, mRet, mRetN, mDrop, mTest, mOp, mC, mVar, mSetI, mNext, mCB, mCons, mNil, mAndT, mOrT, mNotT, mTruT, mIf, mNeg, mOr, mAnd, mNot, mLst, mTup, mBM, mBM0, mPar, mCall, mCallK, mLstRg1, mTupRg1, mRng1, mRng2, mEnum, mZipT, mFor, mSl, mNoPart, mPart, mLc, wipeM, List.set_cons_zero, List.set_cons_succ, startM, List.map_cons, List.map_nil, List.cons_append, List.nil_append, List.length_cons, List.length_nil, List.replicate, List.getElem?_cons_zero, List.getElem?_cons_succ, Option.some.injEq, Nat.reduceSub, Nat.reduceAdd, true_and, exists_eq_left, exists_eq_left', e_ix_tup, e_ix_lst, e_ix_fz, e_ix_ref, e_lo_lst, e_lo_fz, e_lo_ref, e_so_lst, e_so_fz, e_so_tup, e_so_ref, e_hd_lst, e_hd_ref, e_add_int, e_add_str, e_add_tup, e_add_lst, e_sub_int, e_mul_int, e_mul_lst, e_mul_tup, e_mod_int, e_fdv_int, e_pow_int, e_lt_int, e_le_int, e_gt_int, e_ge_int, e_eq_int, e_ne_int, e_eq_str, e_ne_str, e_isN, e_notN, e_isN_non, e_isN_int, e_isN_tup, e_isN_str, e_isN_ref, e_isN_lst, e_abs, e_max2, e_min2, e_int_int, e_int_bl, e_str_int, e_str_str, e_str_non, e_len_str, e_len_tup, e_len_lst, e_len_fz, e_len_ref, e_list_tup, e_list_lst, e_list_fz, e_list_ref, e_tupl_tup, e_tupl_lst, e_tupl_ref, e_newT, e_newF, e_run_nm, e_run_tp, e_runs_nil, e_runs_cons, e_tru_bl, e_tru_int, e_tru_str, e_tru_lst, e_tru_tup, e_ty_str, e_ty_lst, e_ty_ref, e_append, e_insert, e_popAt, e_pop0, e_join, e_seqI_val, e_cut_str, e_cut_tup, e_cut_lst, e_cut_fz, e_cut_ref]
  obtain ⟨o', ea, p'⟩ := s.pen
  refine draw_at (E := noX) ea p' (by omega) (by omega) (by omega) fun x o2 x0 x1 p2 => ?_
  have s2 := s.draw p2
  have c2 := Cov.draw s (o' := o2) hcov
  refine ⟨by decide, ?_⟩
  refine draw_at (E := noX) put_same p2 (by omega) (by omega) (by omega) fun w o3 w0 w1 p3 => ?_
  have s3 := s2.draw p3
  have c3 := Cov.draw s2 (o' := o3) c2
  have hw : w = 0 ∨ w = 1 ∨ w = 2 ∨ w = 3 := by omega
  rcases hw with rfl | rfl | rfl | rfl
  · exact ⟨_, _, rfl, rfl, rest _ _ (by split <;> omega) (by split <;> omega) (s3.mono (Nat.le_refl _) (by omega)) c3⟩
  · exact ⟨_, _, rfl, rfl, rest _ _ (by split <;> omega) (by split <;> omega) (s3.mono (Nat.le_refl _) (by omega)) c3⟩
  · exact ⟨_, _, rfl, rfl, rest _ _ (by split <;> omega) (by split <;> omega) (s3.mono (Nat.le_refl _) (by omega)) c3⟩
  · exact ⟨_, _, rfl, rfl, rest _ _ (by split <;> omega) (by split <;> omega) (s3.mono (Nat.le_refl _) (by omega)) c3⟩
end Q82

set_option maxRecDepth 100000
namespace Q82
open PySem PySem.Spec L2 ML
open PyProof.Rows hiding St
theorem law_is_integer (x0 : D) (G : Gp) (q : MK) (h : p_is_integer x0 G q) : b_is_integer { nx := fun _ G' => less q .non G', rt := less q } (startM ["value"] [x0]) G := by
  obtain ⟨i, rfl, hq⟩ := h
  simp only [b_is_integer, mSeq, mIfS, mAsg, mRet, mRetN, mDrop, mTest, mOp, mC, mVar, mSetI, mNext, mCB, mCons, mNil, mAndT, mOrT, mNotT, mTruT, mIf, mNeg, mOr, mAnd, mNot, mLst, mTup, mBM, mBM0, mPar, mCall, mCallK, mLstRg1, mTupRg1, mRng1, mRng2, mEnum, mZipT, mFor, mSl, mNoPart, mPart, mLc, wipeM, List.set_cons_zero, List.set_cons_succ, startM, List.map_cons, List.map_nil, List.cons_append, List.nil_append, List.length_cons, List.length_nil, List.replicate, List.getElem?_cons_zero, List.getElem?_cons_succ, Option.some.injEq, Nat.reduceSub, Nat.reduceAdd, true_and, exists_eq_left, exists_eq_left', e_ix_tup, e_ix_lst, e_ix_fz, e_ix_ref, e_lo_lst, e_lo_fz, e_lo_ref, e_so_lst, e_so_fz, e_so_tup, e_so_ref, e_hd_lst, e_hd_ref, e_add_int, e_add_str, e_add_tup, e_add_lst, e_sub_int, e_mul_int, e_mul_lst, e_mul_tup, e_mod_int, e_fdv_int, e_pow_int, e_lt_int, e_le_int, e_gt_int, e_ge_int, e_eq_int, e_ne_int, e_eq_str, e_ne_str, e_isN, e_notN, e_isN_non, e_isN_int, e_isN_tup, e_isN_str, e_isN_ref, e_isN_lst, e_abs, e_max2, e_min2, e_int_int, e_int_bl, e_str_int, e_str_str, e_str_non, e_len_str, e_len_tup, e_len_lst, e_len_fz, e_len_ref, e_list_tup, e_list_lst, e_list_fz, e_list_ref, e_tupl_tup, e_tupl_lst, e_tupl_ref, e_newT, e_newF, e_run_nm, e_run_tp, e_runs_nil, e_runs_cons, e_tru_bl, e_tru_int, e_tru_str, e_tru_lst, e_tru_tup, e_ty_str, e_ty_lst, e_ty_ref, e_append, e_insert, e_popAt, e_pop0, e_join, e_seqI_val, e_cut_str, e_cut_tup, e_cut_lst, e_cut_fz, e_cut_ref, mChain, mAugS, mStar, mEnumK, e_isi, e_isi2, e_all, e_intS_str, e_intS_int, e_inS, e_split, e_iadd, e_tru_non]
  refine ⟨_, true, rfl, by decide +kernel, ?_⟩
  simp only [mSeq, mIfS, mAsg, mRet, mRetN, mDrop, mTest, mOp, mC, mVar, mSetI, mNext, mCB, mCons, mNil, mAndT, mOrT, mNotT, mTruT, mIf, mNeg, mOr, mAnd, mNot, mLst, mTup, mBM, mBM0, mPar, mCall, mCallK, mLstRg1, mTupRg1, mRng1, mRng2, mEnum, mZipT, mFor, mSl, mNoPart, mPart, mLc, wipeM, List.set_cons_zero, List.set_cons_succ, startM, List.map_cons, List.map_nil, List.cons_append, List.nil_append, List.length_cons, List.length_nil, List.replicate, List.getElem?_cons_zero, List.getElem?_cons_succ, Option.some.injEq, Nat.reduceSub, Nat.reduceAdd, true_and, exists_eq_left, exists_eq_left', e_ix_tup, e_ix_lst, e_ix_fz, e_ix_ref, e_lo_lst, e_lo_fz, e_lo_ref, e_so_lst, e_so_fz, e_so_tup, e_so_ref, e_hd_lst, e_hd_ref, e_add_int, e_add_str, e_add_tup, e_add_lst, e_sub_int, e_mul_int, e_mul_lst, e_mul_tup, e_mod_int, e_fdv_int, e_pow_int, e_lt_int, e_le_int, e_gt_int, e_ge_int, e_eq_int, e_ne_int, e_eq_str, e_ne_str, e_isN, e_notN, e_isN_non, e_isN_int, e_isN_tup, e_isN_str, e_isN_ref, e_isN_lst, e_abs, e_max2, e_min2, e_int_int, e_int_bl, e_str_int, e_str_str, e_str_non, e_len_str, e_len_tup, e_len_lst, e_len_fz, e_len_ref, e_list_tup, e_list_lst, e_list_fz, e_list_ref, e_tupl_tup, e_tupl_lst, e_tupl_ref, e_newT, e_newF, e_run_nm, e_run_tp, e_runs_nil, e_runs_cons, e_tru_bl, e_tru_int, e_tru_str, e_tru_lst, e_tru_tup, e_ty_str, e_ty_lst, e_ty_ref, e_append, e_insert, e_popAt, e_pop0, e_join, e_seqI_val, e_cut_str, e_cut_tup, e_cut_lst, e_cut_fz, e_cut_ref, mChain, mAugS, mStar, mEnumK, e_isi, e_isi2, e_all, e_intS_str, e_intS_int, e_inS, e_split, e_iadd, e_tru_non]
  refine ⟨_, false, rfl, by decide +kernel, ?_⟩
  exact less_here hq
theorem law_is_between (x0 x1 x2 : D) (G : Gp) (q : MK) (h : p_is_between x0 x1 x2 G q) : b_is_between { nx := fun _ G' => less q .non G', rt := less q } (startM ["value", "least", "most"] [x0, x1, x2]) G := by
  obtain ⟨i, l, m, rfl, rfl, rfl, hq⟩ := h
  simp only [b_is_between, e_sp_is_integer, mSeq, mIfS, mAsg, mRet, mRetN, mDrop, mTest, mOp, mC, mVar, mSetI, mNext, mCB, mCons, mNil, mAndT, mOrT, mNotT, mTruT, mIf, mNeg, mOr, mAnd, mNot, mLst, mTup, mBM, mBM0, mPar, mCall, mCallK, mLstRg1, mTupRg1, mRng1, mRng2, mEnum, mZipT, mFor, mSl, mNoPart, mPart, mLc, wipeM, List.set_cons_zero, List.set_cons_succ, startM, List.map_cons, List.map_nil, List.cons_append, List.nil_append, List.length_cons, List.length_nil, List.replicate, List.getElem?_cons_zero, List.getElem?_cons_succ, Option.some.injEq, Nat.reduceSub, Nat.reduceAdd, true_and, exists_eq_left, exists_eq_left', e_ix_tup, e_ix_lst, e_ix_fz, e_ix_ref, e_lo_lst, e_lo_fz, e_lo_ref, e_so_lst, e_so_fz, e_so_tup, e_so_ref, e_hd_lst, e_hd_ref, e_add_int, e_add_str, e_add_tup, e_add_lst, e_sub_int, e_mul_int, e_mul_lst, e_mul_tup, e_mod_int, e_fdv_int, e_pow_int, e_lt_int, e_le_int, e_gt_int, e_ge_int, e_eq_int, e_ne_int, e_eq_str, e_ne_str, e_isN, e_notN, e_isN_non, e_isN_int, e_isN_tup, e_isN_str, e_isN_ref, e_isN_lst, e_abs, e_max2, e_min2, e_int_int, e_int_bl, e_str_int, e_str_str, e_str_non, e_len_str, e_len_tup, e_len_lst, e_len_fz, e_len_ref, e_list_tup, e_list_lst, e_list_fz, e_list_ref, e_tupl_tup, e_tupl_lst, e_tupl_ref, e_newT, e_newF, e_run_nm, e_run_tp, e_runs_nil, e_runs_cons, e_tru_bl, e_tru_int, e_tru_str, e_tru_lst, e_tru_tup, e_ty_str, e_ty_lst, e_ty_ref, e_append, e_insert, e_popAt, e_pop0, e_join, e_seqI_val, e_cut_str, e_cut_tup, e_cut_lst, e_cut_fz, e_cut_ref, mChain, mAugS, mStar, mEnumK, e_isi, e_isi2, e_all, e_intS_str, e_intS_int, e_inS, e_split, e_iadd, e_tru_non]
  refine ⟨i, rfl, ?_⟩
  simp only [mSeq, mIfS, mAsg, mRet, mRetN, mDrop, mTest, mOp, mC, mVar, mSetI, mNext, mCB, mCons, mNil, mAndT, mOrT, mNotT, mTruT, mIf, mNeg, mOr, mAnd, mNot, mLst, mTup, mBM, mBM0, mPar, mCall, mCallK, mLstRg1, mTupRg1, mRng1, mRng2, mEnum, mZipT, mFor, mSl, mNoPart, mPart, mLc, wipeM, List.set_cons_zero, List.set_cons_succ, startM, List.map_cons, List.map_nil, List.cons_append, List.nil_append, List.length_cons, List.length_nil, List.replicate, List.getElem?_cons_zero, List.getElem?_cons_succ, Option.some.injEq, Nat.reduceSub, Nat.reduceAdd, true_and, exists_eq_left, exists_eq_left', e_ix_tup, e_ix_lst, e_ix_fz, e_ix_ref, e_lo_lst, e_lo_fz, e_lo_ref, e_so_lst, e_so_fz, e_so_tup, e_so_ref, e_hd_lst, e_hd_ref, e_add_int, e_add_str, e_add_tup, e_add_lst, e_sub_int, e_mul_int, e_mul_lst, e_mul_tup, e_mod_int, e_fdv_int, e_pow_int, e_lt_int, e_le_int, e_gt_int, e_ge_int, e_eq_int, e_ne_int, e_eq_str, e_ne_str, e_isN, e_notN, e_isN_non, e_isN_int, e_isN_tup, e_isN_str, e_isN_ref, e_isN_lst, e_abs, e_max2, e_min2, e_int_int, e_int_bl, e_str_int, e_str_str, e_str_non, e_len_str, e_len_tup, e_len_lst, e_len_fz, e_len_ref, e_list_tup, e_list_lst, e_list_fz, e_list_ref, e_tupl_tup, e_tupl_lst, e_tupl_ref, e_newT, e_newF, e_run_nm, e_run_tp, e_runs_nil, e_runs_cons, e_tru_bl, e_tru_int, e_tru_str, e_tru_lst, e_tru_tup, e_ty_str, e_ty_lst, e_ty_ref, e_append, e_insert, e_popAt, e_pop0, e_join, e_seqI_val, e_cut_str, e_cut_tup, e_cut_lst, e_cut_fz, e_cut_ref, mChain, mAugS, mStar, mEnumK, e_isi, e_isi2, e_all, e_intS_str, e_intS_int, e_inS, e_split, e_iadd, e_tru_non]
  by_cases h1 : l ≤ i
  · simp only [h1, decide_true, Bool.true_and, mSeq, mIfS, mAsg, mRet, mRetN, mDrop, mTest, mOp, mC, mVar, mSetI, mNext, mCB, mCons, mNil, mAndT, mOrT, mNotT, mTruT, mIf, mNeg, mOr, mAnd, mNot, mLst, mTup, mBM, mBM0, mPar, mCall, mCallK, mLstRg1, mTupRg1, mRng1, mRng2, mEnum, mZipT, mFor, mSl, mNoPart, mPart, mLc, wipeM, List.set_cons_zero, List.set_cons_succ, startM, List.map_cons, List.map_nil, List.cons_append, List.nil_append, List.length_cons, List.length_nil, List.replicate, List.getElem?_cons_zero, List.getElem?_cons_succ, Option.some.injEq, Nat.reduceSub, Nat.reduceAdd, true_and, exists_eq_left, exists_eq_left', e_ix_tup, e_ix_lst, e_ix_fz, e_ix_ref, e_lo_lst, e_lo_fz, e_lo_ref, e_so_lst, e_so_fz, e_so_tup, e_so_ref, e_hd_lst, e_hd_ref, e_add_int, e_add_str, e_add_tup, e_add_lst, e_sub_int, e_mul_int, e_mul_lst, e_mul_tup, e_mod_int, e_fdv_int, e_pow_int, e_lt_int, e_le_int, e_gt_int, e_ge_int, e_eq_int, e_ne_int, e_eq_str, e_ne_str, e_isN, e_notN, e_isN_non, e_isN_int, e_isN_tup, e_isN_str, e_isN_ref, e_isN_lst, e_abs, e_max2, e_min2, e_int_int, e_int_bl, e_str_int, e_str_str, e_str_non, e_len_str, e_len_tup, e_len_lst, e_len_fz, e_len_ref, e_list_tup, e_list_lst, e_list_fz, e_list_ref, e_tupl_tup, e_tupl_lst, e_tupl_ref, e_newT, e_newF, e_run_nm, e_run_tp, e_runs_nil, e_runs_cons, e_tru_bl, e_tru_int, e_tru_str, e_tru_lst, e_tru_tup, e_ty_str, e_ty_lst, e_ty_ref, e_append, e_insert, e_popAt, e_pop0, e_join, e_seqI_val, e_cut_str, e_cut_tup, e_cut_lst, e_cut_fz, e_cut_ref, mChain, mAugS, mStar, mEnumK, e_isi, e_isi2, e_all, e_intS_str, e_intS_int, e_inS, e_split, e_iadd, e_tru_non] at hq ⊢
    exact less_here hq
  · simp only [h1, decide_false, Bool.false_and] at hq ⊢
    exact less_here hq
theorem all_true (xs : List D) : blsOf (xs.map fun _ => D.bl true) = some (xs.map fun _ => true) ∧ (xs.map fun _ => true).all id = true := by
  induction xs with
  | nil => exact ⟨rfl, rfl⟩
  | cons x xs ih => refine ⟨?_, by rw [List.map_cons, List.all_cons, ih.2]; rfl⟩; rw [List.map_cons, blsOf, ih.1]; rfl
theorem law_is_row (x0 x1 : D) (G : Gp) (q : MK) (h : p_is_row x0 x1 G q) : b_is_row { nx := fun _ G' => less q .non G', rt := less q } (startM ["value", "size", "entry"] [x0, x1]) G := by
  obtain ⟨n, rfl, hx, hq⟩ := h
  rcases hx with rfl | ⟨row, rfl, hr⟩
  · simp only [b_is_row, b_is_row_2, mSeq, mIfS, mAsg, mRet, mRetN, mDrop, mTest, mOp, mC, mVar, mSetI, mNext, mCB, mCons, mNil, mAndT, mOrT, mNotT, mTruT, mIf, mNeg, mOr, mAnd, mNot, mLst, mTup, mBM, mBM0, mPar, mCall, mCallK, mLstRg1, mTupRg1, mRng1, mRng2, mEnum, mZipT, mFor, mSl, mNoPart, mPart, mLc, wipeM, List.set_cons_zero, List.set_cons_succ, startM, List.map_cons, List.map_nil, List.cons_append, List.nil_append, List.length_cons, List.length_nil, List.replicate, List.getElem?_cons_zero, List.getElem?_cons_succ, Option.some.injEq, Nat.reduceSub, Nat.reduceAdd, true_and, exists_eq_left, exists_eq_left', e_ix_tup, e_ix_lst, e_ix_fz, e_ix_ref, e_lo_lst, e_lo_fz, e_lo_ref, e_so_lst, e_so_fz, e_so_tup, e_so_ref, e_hd_lst, e_hd_ref, e_add_int, e_add_str, e_add_tup, e_add_lst, e_sub_int, e_mul_int, e_mul_lst, e_mul_tup, e_mod_int, e_fdv_int, e_pow_int, e_lt_int, e_le_int, e_gt_int, e_ge_int, e_eq_int, e_ne_int, e_eq_str, e_ne_str, e_isN, e_notN, e_isN_non, e_isN_int, e_isN_tup, e_isN_str, e_isN_ref, e_isN_lst, e_abs, e_max2, e_min2, e_int_int, e_int_bl, e_str_int, e_str_str, e_str_non, e_len_str, e_len_tup, e_len_lst, e_len_fz, e_len_ref, e_list_tup, e_list_lst, e_list_fz, e_list_ref, e_tupl_tup, e_tupl_lst, e_tupl_ref, e_newT, e_newF, e_run_nm, e_run_tp, e_runs_nil, e_runs_cons, e_tru_bl, e_tru_int, e_tru_str, e_tru_lst, e_tru_tup, e_ty_str, e_ty_lst, e_ty_ref, e_append, e_insert, e_popAt, e_pop0, e_join, e_seqI_val, e_cut_str, e_cut_tup, e_cut_lst, e_cut_fz, e_cut_ref, mChain, mAugS, mStar, mEnumK, e_isi, e_isi2, e_all, e_intS_str, e_intS_int, e_inS, e_split, e_iadd, e_tru_non]
    exact less_here hq
  · simp only [b_is_row, b_is_row_3, mSeq, mIfS, mAsg, mRet, mRetN, mDrop, mTest, mOp, mC, mVar, mSetI, mNext, mCB, mCons, mNil, mAndT, mOrT, mNotT, mTruT, mIf, mNeg, mOr, mAnd, mNot, mLst, mTup, mBM, mBM0, mPar, mCall, mCallK, mLstRg1, mTupRg1, mRng1, mRng2, mEnum, mZipT, mFor, mSl, mNoPart, mPart, mLc, wipeM, List.set_cons_zero, List.set_cons_succ, startM, List.map_cons, List.map_nil, List.cons_append, List.nil_append, List.length_cons, List.length_nil, List.replicate, List.getElem?_cons_zero, List.getElem?_cons_succ, Option.some.injEq, Nat.reduceSub, Nat.reduceAdd, true_and, exists_eq_left, exists_eq_left', e_ix_tup, e_ix_lst, e_ix_fz, e_ix_ref, e_lo_lst, e_lo_fz, e_lo_ref, e_so_lst, e_so_fz, e_so_tup, e_so_ref, e_hd_lst, e_hd_ref, e_add_int, e_add_str, e_add_tup, e_add_lst, e_sub_int, e_mul_int, e_mul_lst, e_mul_tup, e_mod_int, e_fdv_int, e_pow_int, e_lt_int, e_le_int, e_gt_int, e_ge_int, e_eq_int, e_ne_int, e_eq_str, e_ne_str, e_isN, e_notN, e_isN_non, e_isN_int, e_isN_tup, e_isN_str, e_isN_ref, e_isN_lst, e_abs, e_max2, e_min2, e_int_int, e_int_bl, e_str_int, e_str_str, e_str_non, e_len_str, e_len_tup, e_len_lst, e_len_fz, e_len_ref, e_list_tup, e_list_lst, e_list_fz, e_list_ref, e_tupl_tup, e_tupl_lst, e_tupl_ref, e_newT, e_newF, e_run_nm, e_run_tp, e_runs_nil, e_runs_cons, e_tru_bl, e_tru_int, e_tru_str, e_tru_lst, e_tru_tup, e_ty_str, e_ty_lst, e_ty_ref, e_append, e_insert, e_popAt, e_pop0, e_join, e_seqI_val, e_cut_str, e_cut_tup, e_cut_lst, e_cut_fz, e_cut_ref, mChain, mAugS, mStar, mEnumK, e_isi, e_isi2, e_all, e_intS_str, e_intS_int, e_inS, e_split, e_iadd, e_tru_non]
    refine ⟨by decide, _, true, rfl, by decide +kernel, ?_⟩
    have hl := hr.1
    have h40 : ¬ (40 : Int) < (row.length : Nat) := by omega
    simp only [Bool.not_true, h40, decide_false, b_is_row_5, mSeq, mIfS, mAsg, mRet, mRetN, mDrop, mTest, mOp, mC, mVar, mSetI, mNext, mCB, mCons, mNil, mAndT, mOrT, mNotT, mTruT, mIf, mNeg, mOr, mAnd, mNot, mLst, mTup, mBM, mBM0, mPar, mCall, mCallK, mLstRg1, mTupRg1, mRng1, mRng2, mEnum, mZipT, mFor, mSl, mNoPart, mPart, mLc, wipeM, List.set_cons_zero, List.set_cons_succ, startM, List.map_cons, List.map_nil, List.cons_append, List.nil_append, List.length_cons, List.length_nil, List.replicate, List.getElem?_cons_zero, List.getElem?_cons_succ, Option.some.injEq, Nat.reduceSub, Nat.reduceAdd, true_and, exists_eq_left, exists_eq_left', e_ix_tup, e_ix_lst, e_ix_fz, e_ix_ref, e_lo_lst, e_lo_fz, e_lo_ref, e_so_lst, e_so_fz, e_so_tup, e_so_ref, e_hd_lst, e_hd_ref, e_add_int, e_add_str, e_add_tup, e_add_lst, e_sub_int, e_mul_int, e_mul_lst, e_mul_tup, e_mod_int, e_fdv_int, e_pow_int, e_lt_int, e_le_int, e_gt_int, e_ge_int, e_eq_int, e_ne_int, e_eq_str, e_ne_str, e_isN, e_notN, e_isN_non, e_isN_int, e_isN_tup, e_isN_str, e_isN_ref, e_isN_lst, e_abs, e_max2, e_min2, e_int_int, e_int_bl, e_str_int, e_str_str, e_str_non, e_len_str, e_len_tup, e_len_lst, e_len_fz, e_len_ref, e_list_tup, e_list_lst, e_list_fz, e_list_ref, e_tupl_tup, e_tupl_lst, e_tupl_ref, e_newT, e_newF, e_run_nm, e_run_tp, e_runs_nil, e_runs_cons, e_tru_bl, e_tru_int, e_tru_str, e_tru_lst, e_tru_tup, e_ty_str, e_ty_lst, e_ty_ref, e_append, e_insert, e_popAt, e_pop0, e_join, e_seqI_val, e_cut_str, e_cut_tup, e_cut_lst, e_cut_fz, e_cut_ref, mChain, mAugS, mStar, mEnumK, e_isi, e_isi2, e_all, e_intS_str, e_intS_int, e_inS, e_split, e_iadd, e_tru_non]
    refine comp_map (fun _ => .bl true) (by have := sizeLine_eq; omega) trivial (fun w r hw hr' => ?_) ?_
    · rcases hr.2 w hw with rfl | ⟨i, rfl, i0, i1⟩
      · simp only [mSeq, mIfS, mAsg, mRet, mRetN, mDrop, mTest, mOp, mC, mVar, mSetI, mNext, mCB, mCons, mNil, mAndT, mOrT, mNotT, mTruT, mIf, mNeg, mOr, mAnd, mNot, mLst, mTup, mBM, mBM0, mPar, mCall, mCallK, mLstRg1, mTupRg1, mRng1, mRng2, mEnum, mZipT, mFor, mSl, mNoPart, mPart, mLc, wipeM, List.set_cons_zero, List.set_cons_succ, startM, List.map_cons, List.map_nil, List.cons_append, List.nil_append, List.length_cons, List.length_nil, List.replicate, List.getElem?_cons_zero, List.getElem?_cons_succ, Option.some.injEq, Nat.reduceSub, Nat.reduceAdd, true_and, exists_eq_left, exists_eq_left', e_ix_tup, e_ix_lst, e_ix_fz, e_ix_ref, e_lo_lst, e_lo_fz, e_lo_ref, e_so_lst, e_so_fz, e_so_tup, e_so_ref, e_hd_lst, e_hd_ref, e_add_int, e_add_str, e_add_tup, e_add_lst, e_sub_int, e_mul_int, e_mul_lst, e_mul_tup, e_mod_int, e_fdv_int, e_pow_int, e_lt_int, e_le_int, e_gt_int, e_ge_int, e_eq_int, e_ne_int, e_eq_str, e_ne_str, e_isN, e_notN, e_isN_non, e_isN_int, e_isN_tup, e_isN_str, e_isN_ref, e_isN_lst, e_abs, e_max2, e_min2, e_int_int, e_int_bl, e_str_int, e_str_str, e_str_non, e_len_str, e_len_tup, e_len_lst, e_len_fz, e_len_ref, e_list_tup, e_list_lst, e_list_fz, e_list_ref, e_tupl_tup, e_tupl_lst, e_tupl_ref, e_newT, e_newF, e_run_nm, e_run_tp, e_runs_nil, e_runs_cons, e_tru_bl, e_tru_int, e_tru_str, e_tru_lst, e_tru_tup, e_ty_str, e_ty_lst, e_ty_ref, e_append, e_insert, e_popAt, e_pop0, e_join, e_seqI_val, e_cut_str, e_cut_tup, e_cut_lst, e_cut_fz, e_cut_ref, mChain, mAugS, mStar, mEnumK, e_isi, e_isi2, e_all, e_intS_str, e_intS_int, e_inS, e_split, e_iadd, e_tru_non]; exact hr'
      · simp only [e_sp_is_between, mSeq, mIfS, mAsg, mRet, mRetN, mDrop, mTest, mOp, mC, mVar, mSetI, mNext, mCB, mCons, mNil, mAndT, mOrT, mNotT, mTruT, mIf, mNeg, mOr, mAnd, mNot, mLst, mTup, mBM, mBM0, mPar, mCall, mCallK, mLstRg1, mTupRg1, mRng1, mRng2, mEnum, mZipT, mFor, mSl, mNoPart, mPart, mLc, wipeM, List.set_cons_zero, List.set_cons_succ, startM, List.map_cons, List.map_nil, List.cons_append, List.nil_append, List.length_cons, List.length_nil, List.replicate, List.getElem?_cons_zero, List.getElem?_cons_succ, Option.some.injEq, Nat.reduceSub, Nat.reduceAdd, true_and, exists_eq_left, exists_eq_left', e_ix_tup, e_ix_lst, e_ix_fz, e_ix_ref, e_lo_lst, e_lo_fz, e_lo_ref, e_so_lst, e_so_fz, e_so_tup, e_so_ref, e_hd_lst, e_hd_ref, e_add_int, e_add_str, e_add_tup, e_add_lst, e_sub_int, e_mul_int, e_mul_lst, e_mul_tup, e_mod_int, e_fdv_int, e_pow_int, e_lt_int, e_le_int, e_gt_int, e_ge_int, e_eq_int, e_ne_int, e_eq_str, e_ne_str, e_isN, e_notN, e_isN_non, e_isN_int, e_isN_tup, e_isN_str, e_isN_ref, e_isN_lst, e_abs, e_max2, e_min2, e_int_int, e_int_bl, e_str_int, e_str_str, e_str_non, e_len_str, e_len_tup, e_len_lst, e_len_fz, e_len_ref, e_list_tup, e_list_lst, e_list_fz, e_list_ref, e_tupl_tup, e_tupl_lst, e_tupl_ref, e_newT, e_newF, e_run_nm, e_run_tp, e_runs_nil, e_runs_cons, e_tru_bl, e_tru_int, e_tru_str, e_tru_lst, e_tru_tup, e_ty_str, e_ty_lst, e_ty_ref, e_append, e_insert, e_popAt, e_pop0, e_join, e_seqI_val, e_cut_str, e_cut_tup, e_cut_lst, e_cut_fz, e_cut_ref, mChain, mAugS, mStar, mEnumK, e_isi, e_isi2, e_all, e_intS_str, e_intS_int, e_inS, e_split, e_iadd, e_tru_non]
        refine ⟨i, 0, n - 1, rfl, rfl, rfl, ?_⟩
        rw [decide_eq_true i0, decide_eq_true (show i ≤ n - 1 by omega)]
        exact hr'
    · refine ⟨_, _, rfl, (all_true row).1, ?_⟩
      rw [(all_true row).2]
      exact less_here hq
theorem law_have_shape (x0 x1 : D) (G : Gp) (q : MK) (h : p_have_shape x0 x1 G q) : b_have_shape { nx := fun _ G' => less q .non G', rt := less q } (startM ["slots", "outside"] [x0, x1]) G := by
  obtain ⟨slots, outs, a, b, rfl, rfl, ga, gb, hl, h40, hq⟩ := h
  have ta : tyS G (.ref a) = some "list" := by show (match G a with | some (.lst _) => some "list" | _ => none) = _; rw [ga]
  have tb : tyS G (.ref b) = some "list" := by show (match G b with | some (.lst _) => some "list" | _ => none) = _; rw [gb]
  simp only [b_have_shape, mSeq, mIfS, mAsg, mRet, mRetN, mDrop, mTest, mOp, mC, mVar, mSetI, mNext, mCB, mCons, mNil, mAndT, mOrT, mNotT, mTruT, mIf, mNeg, mOr, mAnd, mNot, mLst, mTup, mBM, mBM0, mPar, mCall, mCallK, mLstRg1, mTupRg1, mRng1, mRng2, mEnum, mZipT, mFor, mSl, mNoPart, mPart, mLc, wipeM, List.set_cons_zero, List.set_cons_succ, startM, List.map_cons, List.map_nil, List.cons_append, List.nil_append, List.length_cons, List.length_nil, List.replicate, List.getElem?_cons_zero, List.getElem?_cons_succ, Option.some.injEq, Nat.reduceSub, Nat.reduceAdd, true_and, exists_eq_left, exists_eq_left', e_ix_tup, e_ix_lst, e_ix_fz, e_ix_ref, e_lo_lst, e_lo_fz, e_lo_ref, e_so_lst, e_so_fz, e_so_tup, e_so_ref, e_hd_lst, e_hd_ref, e_add_int, e_add_str, e_add_tup, e_add_lst, e_sub_int, e_mul_int, e_mul_lst, e_mul_tup, e_mod_int, e_fdv_int, e_pow_int, e_lt_int, e_le_int, e_gt_int, e_ge_int, e_eq_int, e_ne_int, e_eq_str, e_ne_str, e_isN, e_notN, e_isN_non, e_isN_int, e_isN_tup, e_isN_str, e_isN_ref, e_isN_lst, e_abs, e_max2, e_min2, e_int_int, e_int_bl, e_str_int, e_str_str, e_str_non, e_len_str, e_len_tup, e_len_lst, e_len_fz, e_len_ref, e_list_tup, e_list_lst, e_list_fz, e_list_ref, e_tupl_tup, e_tupl_lst, e_tupl_ref, e_newT, e_newF, e_run_nm, e_run_tp, e_runs_nil, e_runs_cons, e_tru_bl, e_tru_int, e_tru_str, e_tru_lst, e_tru_tup, e_ty_str, e_ty_lst, e_ty_ref, e_append, e_insert, e_popAt, e_pop0, e_join, e_seqI_val, e_cut_str, e_cut_tup, e_cut_lst, e_cut_fz, e_cut_ref, mChain, mAugS, mStar, mEnumK, e_isi, e_isi2, e_all, e_intS_str, e_intS_int, e_inS, e_split, e_iadd, e_tru_non]
  refine ⟨by decide, _, true, ta, by decide +kernel, ?_⟩
  simp only [Bool.not_true, mSeq, mIfS, mAsg, mRet, mRetN, mDrop, mTest, mOp, mC, mVar, mSetI, mNext, mCB, mCons, mNil, mAndT, mOrT, mNotT, mTruT, mIf, mNeg, mOr, mAnd, mNot, mLst, mTup, mBM, mBM0, mPar, mCall, mCallK, mLstRg1, mTupRg1, mRng1, mRng2, mEnum, mZipT, mFor, mSl, mNoPart, mPart, mLc, wipeM, List.set_cons_zero, List.set_cons_succ, startM, List.map_cons, List.map_nil, List.cons_append, List.nil_append, List.length_cons, List.length_nil, List.replicate, List.getElem?_cons_zero, List.getElem?_cons_succ, Option.some.injEq, Nat.reduceSub, Nat.reduceAdd, true_and, exists_eq_left, exists_eq_left', e_ix_tup, e_ix_lst, e_ix_fz, e_ix_ref, e_lo_lst, e_lo_fz, e_lo_ref, e_so_lst, e_so_fz, e_so_tup, e_so_ref, e_hd_lst, e_hd_ref, e_add_int, e_add_str, e_add_tup, e_add_lst, e_sub_int, e_mul_int, e_mul_lst, e_mul_tup, e_mod_int, e_fdv_int, e_pow_int, e_lt_int, e_le_int, e_gt_int, e_ge_int, e_eq_int, e_ne_int, e_eq_str, e_ne_str, e_isN, e_notN, e_isN_non, e_isN_int, e_isN_tup, e_isN_str, e_isN_ref, e_isN_lst, e_abs, e_max2, e_min2, e_int_int, e_int_bl, e_str_int, e_str_str, e_str_non, e_len_str, e_len_tup, e_len_lst, e_len_fz, e_len_ref, e_list_tup, e_list_lst, e_list_fz, e_list_ref, e_tupl_tup, e_tupl_lst, e_tupl_ref, e_newT, e_newF, e_run_nm, e_run_tp, e_runs_nil, e_runs_cons, e_tru_bl, e_tru_int, e_tru_str, e_tru_lst, e_tru_tup, e_ty_str, e_ty_lst, e_ty_ref, e_append, e_insert, e_popAt, e_pop0, e_join, e_seqI_val, e_cut_str, e_cut_tup, e_cut_lst, e_cut_fz, e_cut_ref, mChain, mAugS, mStar, mEnumK, e_isi, e_isi2, e_all, e_intS_str, e_intS_int, e_inS, e_split, e_iadd, e_tru_non]
  refine ⟨by decide, _, true, tb, by decide +kernel, ?_⟩
  simp only [Bool.not_true, b_have_shape_3, mSeq, mIfS, mAsg, mRet, mRetN, mDrop, mTest, mOp, mC, mVar, mSetI, mNext, mCB, mCons, mNil, mAndT, mOrT, mNotT, mTruT, mIf, mNeg, mOr, mAnd, mNot, mLst, mTup, mBM, mBM0, mPar, mCall, mCallK, mLstRg1, mTupRg1, mRng1, mRng2, mEnum, mZipT, mFor, mSl, mNoPart, mPart, mLc, wipeM, List.set_cons_zero, List.set_cons_succ, startM, List.map_cons, List.map_nil, List.cons_append, List.nil_append, List.length_cons, List.length_nil, List.replicate, List.getElem?_cons_zero, List.getElem?_cons_succ, Option.some.injEq, Nat.reduceSub, Nat.reduceAdd, true_and, exists_eq_left, exists_eq_left', e_ix_tup, e_ix_lst, e_ix_fz, e_ix_ref, e_lo_lst, e_lo_fz, e_lo_ref, e_so_lst, e_so_fz, e_so_tup, e_so_ref, e_hd_lst, e_hd_ref, e_add_int, e_add_str, e_add_tup, e_add_lst, e_sub_int, e_mul_int, e_mul_lst, e_mul_tup, e_mod_int, e_fdv_int, e_pow_int, e_lt_int, e_le_int, e_gt_int, e_ge_int, e_eq_int, e_ne_int, e_eq_str, e_ne_str, e_isN, e_notN, e_isN_non, e_isN_int, e_isN_tup, e_isN_str, e_isN_ref, e_isN_lst, e_abs, e_max2, e_min2, e_int_int, e_int_bl, e_str_int, e_str_str, e_str_non, e_len_str, e_len_tup, e_len_lst, e_len_fz, e_len_ref, e_list_tup, e_list_lst, e_list_fz, e_list_ref, e_tupl_tup, e_tupl_lst, e_tupl_ref, e_newT, e_newF, e_run_nm, e_run_tp, e_runs_nil, e_runs_cons, e_tru_bl, e_tru_int, e_tru_str, e_tru_lst, e_tru_tup, e_ty_str, e_ty_lst, e_ty_ref, e_append, e_insert, e_popAt, e_pop0, e_join, e_seqI_val, e_cut_str, e_cut_tup, e_cut_lst, e_cut_fz, e_cut_ref, mChain, mAugS, mStar, mEnumK, e_isi, e_isi2, e_all, e_intS_str, e_intS_int, e_inS, e_split, e_iadd, e_tru_non]
  refine ⟨_, ga, _, gb, ?_⟩
  have e1 : ((slots.length : Int) = (outs.length : Int)) := by omega
  have e2 : (outs.length : Int) ≤ 40 := by omega
  simp only [e1, e2, decide_true, mSeq, mIfS, mAsg, mRet, mRetN, mDrop, mTest, mOp, mC, mVar, mSetI, mNext, mCB, mCons, mNil, mAndT, mOrT, mNotT, mTruT, mIf, mNeg, mOr, mAnd, mNot, mLst, mTup, mBM, mBM0, mPar, mCall, mCallK, mLstRg1, mTupRg1, mRng1, mRng2, mEnum, mZipT, mFor, mSl, mNoPart, mPart, mLc, wipeM, List.set_cons_zero, List.set_cons_succ, startM, List.map_cons, List.map_nil, List.cons_append, List.nil_append, List.length_cons, List.length_nil, List.replicate, List.getElem?_cons_zero, List.getElem?_cons_succ, Option.some.injEq, Nat.reduceSub, Nat.reduceAdd, true_and, exists_eq_left, exists_eq_left', e_ix_tup, e_ix_lst, e_ix_fz, e_ix_ref, e_lo_lst, e_lo_fz, e_lo_ref, e_so_lst, e_so_fz, e_so_tup, e_so_ref, e_hd_lst, e_hd_ref, e_add_int, e_add_str, e_add_tup, e_add_lst, e_sub_int, e_mul_int, e_mul_lst, e_mul_tup, e_mod_int, e_fdv_int, e_pow_int, e_lt_int, e_le_int, e_gt_int, e_ge_int, e_eq_int, e_ne_int, e_eq_str, e_ne_str, e_isN, e_notN, e_isN_non, e_isN_int, e_isN_tup, e_isN_str, e_isN_ref, e_isN_lst, e_abs, e_max2, e_min2, e_int_int, e_int_bl, e_str_int, e_str_str, e_str_non, e_len_str, e_len_tup, e_len_lst, e_len_fz, e_len_ref, e_list_tup, e_list_lst, e_list_fz, e_list_ref, e_tupl_tup, e_tupl_lst, e_tupl_ref, e_newT, e_newF, e_run_nm, e_run_tp, e_runs_nil, e_runs_cons, e_tru_bl, e_tru_int, e_tru_str, e_tru_lst, e_tru_tup, e_ty_str, e_ty_lst, e_ty_ref, e_append, e_insert, e_popAt, e_pop0, e_join, e_seqI_val, e_cut_str, e_cut_tup, e_cut_lst, e_cut_fz, e_cut_ref, mChain, mAugS, mStar, mEnumK, e_isi, e_isi2, e_all, e_intS_str, e_intS_int, e_inS, e_split, e_iadd, e_tru_non]
  exact less_here hq
theorem law_require_word (x0 x1 x2 : D) (G : Gp) (q : MK) (h : p_require_word x0 x1 x2 G q) : b_require_word { nx := fun _ G' => less q .non G', rt := less q } (startM ["is_valid", "line", "word"] [x0, x1, x2]) G := by
  obtain ⟨rfl, hq⟩ := h
  simp only [b_require_word, Bool.not_true, mSeq, mIfS, mAsg, mRet, mRetN, mDrop, mTest, mOp, mC, mVar, mSetI, mNext, mCB, mCons, mNil, mAndT, mOrT, mNotT, mTruT, mIf, mNeg, mOr, mAnd, mNot, mLst, mTup, mBM, mBM0, mPar, mCall, mCallK, mLstRg1, mTupRg1, mRng1, mRng2, mEnum, mZipT, mFor, mSl, mNoPart, mPart, mLc, wipeM, List.set_cons_zero, List.set_cons_succ, startM, List.map_cons, List.map_nil, List.cons_append, List.nil_append, List.length_cons, List.length_nil, List.replicate, List.getElem?_cons_zero, List.getElem?_cons_succ, Option.some.injEq, Nat.reduceSub, Nat.reduceAdd, true_and, exists_eq_left, exists_eq_left', e_ix_tup, e_ix_lst, e_ix_fz, e_ix_ref, e_lo_lst, e_lo_fz, e_lo_ref, e_so_lst, e_so_fz, e_so_tup, e_so_ref, e_hd_lst, e_hd_ref, e_add_int, e_add_str, e_add_tup, e_add_lst, e_sub_int, e_mul_int, e_mul_lst, e_mul_tup, e_mod_int, e_fdv_int, e_pow_int, e_lt_int, e_le_int, e_gt_int, e_ge_int, e_eq_int, e_ne_int, e_eq_str, e_ne_str, e_isN, e_notN, e_isN_non, e_isN_int, e_isN_tup, e_isN_str, e_isN_ref, e_isN_lst, e_abs, e_max2, e_min2, e_int_int, e_int_bl, e_str_int, e_str_str, e_str_non, e_len_str, e_len_tup, e_len_lst, e_len_fz, e_len_ref, e_list_tup, e_list_lst, e_list_fz, e_list_ref, e_tupl_tup, e_tupl_lst, e_tupl_ref, e_newT, e_newF, e_run_nm, e_run_tp, e_runs_nil, e_runs_cons, e_tru_bl, e_tru_int, e_tru_str, e_tru_lst, e_tru_tup, e_ty_str, e_ty_lst, e_ty_ref, e_append, e_insert, e_popAt, e_pop0, e_join, e_seqI_val, e_cut_str, e_cut_tup, e_cut_lst, e_cut_fz, e_cut_ref, mChain, mAugS, mStar, mEnumK, e_isi, e_isi2, e_all, e_intS_str, e_intS_int, e_inS, e_split, e_iadd, e_tru_non]
  exact less_here hq
theorem take_next' {α : Type} {l : List α} {i : Nat} {x : α} (h : l[i]? = some x) : l.take (i + 1) = l.take i ++ [x] := by
  rw [List.take_add_one, h]; rfl
theorem held_of {slots : List D} {v : Nat} {row : List D} (h : D.tup row ∈ slots) (hv : D.int v ∈ row) : Held v slots := ⟨row, h, hv⟩
/-- counted over the first rows, and the first entries of the next -/
def Cnt (outs : List D) (done : List D) (part : List D) (fs : List Int) : Prop := fs.length = outs.length ∧ ∀ v : Nat, v < outs.length → 0 ≤ fs.getD v 0 ∧ (0 < fs.getD v 0 ↔ outs[v]? ≠ some (.int 0) ∨ Held v done ∨ D.int v ∈ part)
theorem getD_set {fs : List Int} {j v : Nat} {x : Int} : (fs.set j x).getD v 0 = if j = v ∧ j < fs.length then x else fs.getD v 0 := by
  rw [List.getD_eq_getElem?_getD, List.getD_eq_getElem?_getD, List.getElem?_set]
  by_cases h : j = v
  · subst h
    by_cases h2 : j < fs.length
    · rw [if_pos rfl, if_pos h2, if_pos ⟨rfl, h2⟩]; rfl
    · rw [if_pos rfl, if_neg h2, if_neg (fun z => h2 z.2), List.getElem?_eq_none (by omega)]
  · rw [if_neg h, if_neg (fun z => h z.1)]
theorem law_reference_counts (x0 x1 : D) (G : Gp) (q : MK) (h : p_reference_counts x0 x1 G q) : b_reference_counts { nx := fun _ G' => less q .non G', rt := less q } (startM ["slots", "outside", "found", "row", "held"] [x0, x1]) G := by
  obtain ⟨slots, outs, a, b, rfl, rfl, ga, gb, hh, kq⟩ := h
  obtain ⟨hlen, h40, hs, ho⟩ := hh
  simp only [b_reference_counts, mSeq, mIfS, mAsg, mRet, mRetN, mDrop, mTest, mOp, mC, mVar, mSetI, mNext, mCB, mCons, mNil, mAndT, mOrT, mNotT, mTruT, mIf, mNeg, mOr, mAnd, mNot, mLst, mTup, mBM, mBM0, mPar, mCall, mCallK, mLstRg1, mTupRg1, mRng1, mRng2, mEnum, mZipT, mFor, mSl, mNoPart, mPart, mLc, wipeM, List.set_cons_zero, List.set_cons_succ, startM, List.map_cons, List.map_nil, List.cons_append, List.nil_append, List.length_cons, List.length_nil, List.replicate, List.getElem?_cons_zero, List.getElem?_cons_succ, Option.some.injEq, Nat.reduceSub, Nat.reduceAdd, true_and, exists_eq_left, exists_eq_left', e_ix_tup, e_ix_lst, e_ix_fz, e_ix_ref, e_lo_lst, e_lo_fz, e_lo_ref, e_so_lst, e_so_fz, e_so_tup, e_so_ref, e_hd_lst, e_hd_ref, e_add_int, e_add_str, e_add_tup, e_add_lst, e_sub_int, e_mul_int, e_mul_lst, e_mul_tup, e_mod_int, e_fdv_int, e_pow_int, e_lt_int, e_le_int, e_gt_int, e_ge_int, e_eq_int, e_ne_int, e_eq_str, e_ne_str, e_isN, e_notN, e_isN_non, e_isN_int, e_isN_tup, e_isN_str, e_isN_ref, e_isN_lst, e_abs, e_max2, e_min2, e_int_int, e_int_bl, e_str_int, e_str_str, e_str_non, e_len_str, e_len_tup, e_len_lst, e_len_fz, e_len_ref, e_list_tup, e_list_lst, e_list_fz, e_list_ref, e_tupl_tup, e_tupl_lst, e_tupl_ref, e_newT, e_newF, e_run_nm, e_run_tp, e_runs_nil, e_runs_cons, e_tru_bl, e_tru_int, e_tru_str, e_tru_lst, e_tru_tup, e_ty_str, e_ty_lst, e_ty_ref, e_append, e_insert, e_popAt, e_pop0, e_join, e_seqI_val, e_cut_str, e_cut_tup, e_cut_lst, e_cut_fz, e_cut_ref, mChain, mAugS, mStar, mEnumK, e_isi, e_isi2, e_all, e_intS_str, e_intS_int, e_inS, e_split, e_iadd, e_tru_non]
  refine ⟨outs, gb, fun p hp => ?_⟩
  have npa : a ≠ p := ne_of_fresh ga hp
  obtain ⟨fs0, rfl, hfs⟩ : ∃ fs : List Int, outs = fs.map D.int ∧ ∀ x ∈ fs, 0 ≤ x := by
    clear gb hlen kq
    induction outs with
    | nil => exact ⟨[], rfl, fun _ h => nomatch h⟩
    | cons x xs ih =>
      obtain ⟨i, rfl, i0, _⟩ := ho x List.mem_cons_self
      obtain ⟨fs, rfl, h⟩ := ih fun y hy => ho y (List.mem_cons_of_mem _ hy)
      exact ⟨i :: fs, rfl, fun y hy => by
        rcases List.mem_cons.mp hy with rfl | hy
        · exact i0
        · exact h y hy⟩
  simp only [b_reference_counts_2, mSeq, mIfS, mAsg, mRet, mRetN, mDrop, mTest, mOp, mC, mVar, mSetI, mNext, mCB, mCons, mNil, mAndT, mOrT, mNotT, mTruT, mIf, mNeg, mOr, mAnd, mNot, mLst, mTup, mBM, mBM0, mPar, mCall, mCallK, mLstRg1, mTupRg1, mRng1, mRng2, mEnum, mZipT, mFor, mSl, mNoPart, mPart, mLc, wipeM, List.set_cons_zero, List.set_cons_succ, startM, List.map_cons, List.map_nil, List.cons_append, List.nil_append, List.length_cons, List.length_nil, List.replicate, List.getElem?_cons_zero, List.getElem?_cons_succ, Option.some.injEq, Nat.reduceSub, Nat.reduceAdd, true_and, exists_eq_left, exists_eq_left', e_ix_tup, e_ix_lst, e_ix_fz, e_ix_ref, e_lo_lst, e_lo_fz, e_lo_ref, e_so_lst, e_so_fz, e_so_tup, e_so_ref, e_hd_lst, e_hd_ref, e_add_int, e_add_str, e_add_tup, e_add_lst, e_sub_int, e_mul_int, e_mul_lst, e_mul_tup, e_mod_int, e_fdv_int, e_pow_int, e_lt_int, e_le_int, e_gt_int, e_ge_int, e_eq_int, e_ne_int, e_eq_str, e_ne_str, e_isN, e_notN, e_isN_non, e_isN_int, e_isN_tup, e_isN_str, e_isN_ref, e_isN_lst, e_abs, e_max2, e_min2, e_int_int, e_int_bl, e_str_int, e_str_str, e_str_non, e_len_str, e_len_tup, e_len_lst, e_len_fz, e_len_ref, e_list_tup, e_list_lst, e_list_fz, e_list_ref, e_tupl_tup, e_tupl_lst, e_tupl_ref, e_newT, e_newF, e_run_nm, e_run_tp, e_runs_nil, e_runs_cons, e_tru_bl, e_tru_int, e_tru_str, e_tru_lst, e_tru_tup, e_ty_str, e_ty_lst, e_ty_ref, e_append, e_insert, e_popAt, e_pop0, e_join, e_seqI_val, e_cut_str, e_cut_tup, e_cut_lst, e_cut_fz, e_cut_ref, mChain, mAugS, mStar, mEnumK, e_isi, e_isi2, e_all, e_intS_str, e_intS_int, e_inS, e_split, e_iadd, e_tru_non]
  refine ⟨slots.map thaw, by rw [put_ne npa]; exact ga, loop_ind (fun i τ G' => (∃ v3 v4, τ = [some (.ref a), some (.ref b), some (.ref p), v3, v4]) ∧ (∃ fs : List Int, G' p = some (.lst (fs.map D.int)) ∧ Cnt (fs0.map D.int) (slots.take i) [] fs) ∧ ∀ c u, G c = some u → G' c = some u) ?_ ?_ ⟨⟨_, _, rfl⟩, ⟨fs0, put_same, ?_⟩, fun c u e => ?_⟩⟩
  · rintro i w τ G' N hw ⟨⟨v3, v4, rfl⟩, ⟨fs, gp, hc⟩, old⟩ hN
    have hi : i < slots.length := by have := (List.getElem?_eq_some_iff.mp hw).1; rwa [List.length_map] at this
    have hx : slots[i]? = some slots[i] := List.getElem?_eq_getElem hi
    have ew : w = thaw slots[i] := by rw [List.getElem?_map, hx] at hw; exact (Option.some.inj hw).symm
    subst ew
    refine ⟨old a _ ga, ?_⟩
    simp only [b_reference_counts_3, e_seqI_val, mSeq, mIfS, mAsg, mRet, mRetN, mDrop, mTest, mOp, mC, mVar, mSetI, mNext, mCB, mCons, mNil, mAndT, mOrT, mNotT, mTruT, mIf, mNeg, mOr, mAnd, mNot, mLst, mTup, mBM, mBM0, mPar, mCall, mCallK, mLstRg1, mTupRg1, mRng1, mRng2, mEnum, mZipT, mFor, mSl, mNoPart, mPart, mLc, wipeM, List.set_cons_zero, List.set_cons_succ, startM, List.map_cons, List.map_nil, List.cons_append, List.nil_append, List.length_cons, List.length_nil, List.replicate, List.getElem?_cons_zero, List.getElem?_cons_succ, Option.some.injEq, Nat.reduceSub, Nat.reduceAdd, true_and, exists_eq_left, exists_eq_left', e_ix_tup, e_ix_lst, e_ix_fz, e_ix_ref, e_lo_lst, e_lo_fz, e_lo_ref, e_so_lst, e_so_fz, e_so_tup, e_so_ref, e_hd_lst, e_hd_ref, e_add_int, e_add_str, e_add_tup, e_add_lst, e_sub_int, e_mul_int, e_mul_lst, e_mul_tup, e_mod_int, e_fdv_int, e_pow_int, e_lt_int, e_le_int, e_gt_int, e_ge_int, e_eq_int, e_ne_int, e_eq_str, e_ne_str, e_isN, e_notN, e_isN_non, e_isN_int, e_isN_tup, e_isN_str, e_isN_ref, e_isN_lst, e_abs, e_max2, e_min2, e_int_int, e_int_bl, e_str_int, e_str_str, e_str_non, e_len_str, e_len_tup, e_len_lst, e_len_fz, e_len_ref, e_list_tup, e_list_lst, e_list_fz, e_list_ref, e_tupl_tup, e_tupl_lst, e_tupl_ref, e_newT, e_newF, e_run_nm, e_run_tp, e_runs_nil, e_runs_cons, e_tru_bl, e_tru_int, e_tru_str, e_tru_lst, e_tru_tup, e_ty_str, e_ty_lst, e_ty_ref, e_append, e_insert, e_popAt, e_pop0, e_join, e_seqI_val, e_cut_str, e_cut_tup, e_cut_lst, e_cut_fz, e_cut_ref, mChain, mAugS, mStar, mEnumK, e_isi, e_isi2, e_all, e_intS_str, e_intS_int, e_inS, e_split, e_iadd, e_tru_non]
    have nxt : ∀ (v3 v4 : Option D) (G2 : Gp) (fs : List Int) (row : List D), (∀ c u, G c = some u → G2 c = some u) → G2 p = some (.lst (fs.map D.int)) → (slots[i] = .tup row ∨ (slots[i] = .non ∧ row = [])) → Cnt (fs0.map D.int) (slots.take i) row fs → N [some (.ref a), some (.ref b), some (.ref p), v3, v4] G2 := by
      intro v3 v4 G2 fs row old2 gp2 hrow hc
      refine hN _ _ ⟨⟨_, _, rfl⟩, ⟨fs, gp2, hc.1, fun v hv => ?_⟩, old2⟩
      obtain ⟨c0, c1⟩ := hc.2 v hv
      refine ⟨c0, c1.trans ?_⟩
      rw [take_next' hx]
      constructor
      · rintro (z | z | z)
        · exact .inl z
        · obtain ⟨r, m, hin⟩ := z; exact .inr (.inl ⟨r, List.mem_append.mpr (.inl m), hin⟩)
        · rcases hrow with e | ⟨e, e2⟩
          · exact .inr (.inl ⟨row, List.mem_append.mpr (.inr (List.mem_singleton.mpr e.symm)), z⟩)
          · rw [e2] at z; exact nomatch z
      · rintro (z | z | z)
        · exact .inl z
        · obtain ⟨r, m, hin⟩ := z
          rcases List.mem_append.mp m with m | m
          · exact .inr (.inl ⟨r, m, hin⟩)
          · rw [List.mem_singleton] at m
            rcases hrow with e | ⟨e, e2⟩
            · rw [e] at m; cases m; exact .inr (.inr hin)
            · rw [e] at m; cases m
        · exact nomatch z
    have loopN : ∀ row : List D, RowOk 40 (RefOk slots.length) row → slots[i] = .tup row → mLoop (fun _ => True) (.nm 4) b_reference_counts_4 { nx := N, rt := less q, bk := b_reference_counts_6 { nx := fun x G' => less q D.non G', rt := less q }, ct := N } row [some (.ref a), some (.ref b), some (.ref p), some (.lst row), v4] G' := by
      intro row hr hrow
      refine loop_ind (fun k τ G2 => (∃ v4, τ = [some (.ref a), some (.ref b), some (.ref p), some (.lst row), v4]) ∧ (∃ fs : List Int, G2 p = some (.lst (fs.map D.int)) ∧ Cnt (fs0.map D.int) (slots.take i) (row.take k) fs) ∧ ∀ c u, G c = some u → G2 c = some u) ?_ ?_ ⟨⟨_, rfl⟩, ⟨fs, gp, hc⟩, old⟩
      · rintro k x τ G2 N2 hx2 ⟨⟨v4, rfl⟩, ⟨fs, gp2, hc2⟩, old2⟩ hN2
        refine ⟨trivial, ?_⟩
        have hin := hr.2 x (List.mem_of_getElem? hx2)
        simp only [b_reference_counts_4, mSeq, mIfS, mAsg, mRet, mRetN, mDrop, mTest, mOp, mC, mVar, mSetI, mNext, mCB, mCons, mNil, mAndT, mOrT, mNotT, mTruT, mIf, mNeg, mOr, mAnd, mNot, mLst, mTup, mBM, mBM0, mPar, mCall, mCallK, mLstRg1, mTupRg1, mRng1, mRng2, mEnum, mZipT, mFor, mSl, mNoPart, mPart, mLc, wipeM, List.set_cons_zero, List.set_cons_succ, startM, List.map_cons, List.map_nil, List.cons_append, List.nil_append, List.length_cons, List.length_nil, List.replicate, List.getElem?_cons_zero, List.getElem?_cons_succ, Option.some.injEq, Nat.reduceSub, Nat.reduceAdd, true_and, exists_eq_left, exists_eq_left', e_ix_tup, e_ix_lst, e_ix_fz, e_ix_ref, e_lo_lst, e_lo_fz, e_lo_ref, e_so_lst, e_so_fz, e_so_tup, e_so_ref, e_hd_lst, e_hd_ref, e_add_int, e_add_str, e_add_tup, e_add_lst, e_sub_int, e_mul_int, e_mul_lst, e_mul_tup, e_mod_int, e_fdv_int, e_pow_int, e_lt_int, e_le_int, e_gt_int, e_ge_int, e_eq_int, e_ne_int, e_eq_str, e_ne_str, e_isN, e_notN, e_isN_non, e_isN_int, e_isN_tup, e_isN_str, e_isN_ref, e_isN_lst, e_abs, e_max2, e_min2, e_int_int, e_int_bl, e_str_int, e_str_str, e_str_non, e_len_str, e_len_tup, e_len_lst, e_len_fz, e_len_ref, e_list_tup, e_list_lst, e_list_fz, e_list_ref, e_tupl_tup, e_tupl_lst, e_tupl_ref, e_newT, e_newF, e_run_nm, e_run_tp, e_runs_nil, e_runs_cons, e_tru_bl, e_tru_int, e_tru_str, e_tru_lst, e_tru_tup, e_ty_str, e_ty_lst, e_ty_ref, e_append, e_insert, e_popAt, e_pop0, e_join, e_seqI_val, e_cut_str, e_cut_tup, e_cut_lst, e_cut_fz, e_cut_ref, mChain, mAugS, mStar, mEnumK, e_isi, e_isi2, e_all, e_intS_str, e_intS_int, e_inS, e_split, e_iadd, e_tru_non]
        rcases hin with rfl | ⟨j, rfl, j0, j1⟩
        · simp only [Bool.not_true, mSeq, mIfS, mAsg, mRet, mRetN, mDrop, mTest, mOp, mC, mVar, mSetI, mNext, mCB, mCons, mNil, mAndT, mOrT, mNotT, mTruT, mIf, mNeg, mOr, mAnd, mNot, mLst, mTup, mBM, mBM0, mPar, mCall, mCallK, mLstRg1, mTupRg1, mRng1, mRng2, mEnum, mZipT, mFor, mSl, mNoPart, mPart, mLc, wipeM, List.set_cons_zero, List.set_cons_succ, startM, List.map_cons, List.map_nil, List.cons_append, List.nil_append, List.length_cons, List.length_nil, List.replicate, List.getElem?_cons_zero, List.getElem?_cons_succ, Option.some.injEq, Nat.reduceSub, Nat.reduceAdd, true_and, exists_eq_left, exists_eq_left', e_ix_tup, e_ix_lst, e_ix_fz, e_ix_ref, e_lo_lst, e_lo_fz, e_lo_ref, e_so_lst, e_so_fz, e_so_tup, e_so_ref, e_hd_lst, e_hd_ref, e_add_int, e_add_str, e_add_tup, e_add_lst, e_sub_int, e_mul_int, e_mul_lst, e_mul_tup, e_mod_int, e_fdv_int, e_pow_int, e_lt_int, e_le_int, e_gt_int, e_ge_int, e_eq_int, e_ne_int, e_eq_str, e_ne_str, e_isN, e_notN, e_isN_non, e_isN_int, e_isN_tup, e_isN_str, e_isN_ref, e_isN_lst, e_abs, e_max2, e_min2, e_int_int, e_int_bl, e_str_int, e_str_str, e_str_non, e_len_str, e_len_tup, e_len_lst, e_len_fz, e_len_ref, e_list_tup, e_list_lst, e_list_fz, e_list_ref, e_tupl_tup, e_tupl_lst, e_tupl_ref, e_newT, e_newF, e_run_nm, e_run_tp, e_runs_nil, e_runs_cons, e_tru_bl, e_tru_int, e_tru_str, e_tru_lst, e_tru_tup, e_ty_str, e_ty_lst, e_ty_ref, e_append, e_insert, e_popAt, e_pop0, e_join, e_seqI_val, e_cut_str, e_cut_tup, e_cut_lst, e_cut_fz, e_cut_ref, mChain, mAugS, mStar, mEnumK, e_isi, e_isi2, e_all, e_intS_str, e_intS_int, e_inS, e_split, e_iadd, e_tru_non]
          refine hN2 _ _ ⟨⟨_, rfl⟩, ⟨fs, gp2, hc2.1, fun v hv => ?_⟩, old2⟩
          obtain ⟨c0, c1⟩ := hc2.2 v hv
          refine ⟨c0, c1.trans ?_⟩
          rw [take_next' hx2]
          constructor
          · rintro (z | z | z)
            · exact .inl z
            · exact .inr (.inl z)
            · exact .inr (.inr (List.mem_append.mpr (.inl z)))
          · rintro (z | z | z)
            · exact .inl z
            · exact .inr (.inl z)
            · rcases List.mem_append.mp z with z | z
              · exact .inr (.inr z)
              · rw [List.mem_singleton] at z; cases z
        · simp only [Bool.not_false, b_reference_counts_5, mSeq, mIfS, mAsg, mRet, mRetN, mDrop, mTest, mOp, mC, mVar, mSetI, mNext, mCB, mCons, mNil, mAndT, mOrT, mNotT, mTruT, mIf, mNeg, mOr, mAnd, mNot, mLst, mTup, mBM, mBM0, mPar, mCall, mCallK, mLstRg1, mTupRg1, mRng1, mRng2, mEnum, mZipT, mFor, mSl, mNoPart, mPart, mLc, wipeM, List.set_cons_zero, List.set_cons_succ, startM, List.map_cons, List.map_nil, List.cons_append, List.nil_append, List.length_cons, List.length_nil, List.replicate, List.getElem?_cons_zero, List.getElem?_cons_succ, Option.some.injEq, Nat.reduceSub, Nat.reduceAdd, true_and, exists_eq_left, exists_eq_left', e_ix_tup, e_ix_lst, e_ix_fz, e_ix_ref, e_lo_lst, e_lo_fz, e_lo_ref, e_so_lst, e_so_fz, e_so_tup, e_so_ref, e_hd_lst, e_hd_ref, e_add_int, e_add_str, e_add_tup, e_add_lst, e_sub_int, e_mul_int, e_mul_lst, e_mul_tup, e_mod_int, e_fdv_int, e_pow_int, e_lt_int, e_le_int, e_gt_int, e_ge_int, e_eq_int, e_ne_int, e_eq_str, e_ne_str, e_isN, e_notN, e_isN_non, e_isN_int, e_isN_tup, e_isN_str, e_isN_ref, e_isN_lst, e_abs, e_max2, e_min2, e_int_int, e_int_bl, e_str_int, e_str_str, e_str_non, e_len_str, e_len_tup, e_len_lst, e_len_fz, e_len_ref, e_list_tup, e_list_lst, e_list_fz, e_list_ref, e_tupl_tup, e_tupl_lst, e_tupl_ref, e_newT, e_newF, e_run_nm, e_run_tp, e_runs_nil, e_runs_cons, e_tru_bl, e_tru_int, e_tru_str, e_tru_lst, e_tru_tup, e_ty_str, e_ty_lst, e_ty_ref, e_append, e_insert, e_popAt, e_pop0, e_join, e_seqI_val, e_cut_str, e_cut_tup, e_cut_lst, e_cut_fz, e_cut_ref, mChain, mAugS, mStar, mEnumK, e_isi, e_isi2, e_all, e_intS_str, e_intS_int, e_inS, e_split, e_iadd, e_tru_non]
          obtain ⟨u, rfl⟩ : ∃ u : Nat, j = (u : Nat) := ⟨j.toNat, by omega⟩
          have hfl : fs.length = slots.length := by rw [hc2.1, hlen]
          have huf : u < fs.length := by omega
          have hat : atI (fs.map D.int) ((u : Nat) : Int) = some (.int (fs.getD u 0)) := by
            obtain ⟨w, hw, _, hg⟩ := at_in (xs := fs.map D.int) (i := (u : Nat)) (by omega) (by rw [List.length_map]; omega)
            rw [Int.toNat_natCast, List.getElem?_map, List.getElem?_eq_getElem huf] at hg
            rw [hw, List.getD_eq_getElem?_getD, List.getElem?_eq_getElem huf]; exact hg.symm
          refine ⟨_, _, gp2, by omega, hat, ?_⟩
          simp only [mSeq, mIfS, mAsg, mRet, mRetN, mDrop, mTest, mOp, mC, mVar, mSetI, mNext, mCB, mCons, mNil, mAndT, mOrT, mNotT, mTruT, mIf, mNeg, mOr, mAnd, mNot, mLst, mTup, mBM, mBM0, mPar, mCall, mCallK, mLstRg1, mTupRg1, mRng1, mRng2, mEnum, mZipT, mFor, mSl, mNoPart, mPart, mLc, wipeM, List.set_cons_zero, List.set_cons_succ, startM, List.map_cons, List.map_nil, List.cons_append, List.nil_append, List.length_cons, List.length_nil, List.replicate, List.getElem?_cons_zero, List.getElem?_cons_succ, Option.some.injEq, Nat.reduceSub, Nat.reduceAdd, true_and, exists_eq_left, exists_eq_left', e_ix_tup, e_ix_lst, e_ix_fz, e_ix_ref, e_lo_lst, e_lo_fz, e_lo_ref, e_so_lst, e_so_fz, e_so_tup, e_so_ref, e_hd_lst, e_hd_ref, e_add_int, e_add_str, e_add_tup, e_add_lst, e_sub_int, e_mul_int, e_mul_lst, e_mul_tup, e_mod_int, e_fdv_int, e_pow_int, e_lt_int, e_le_int, e_gt_int, e_ge_int, e_eq_int, e_ne_int, e_eq_str, e_ne_str, e_isN, e_notN, e_isN_non, e_isN_int, e_isN_tup, e_isN_str, e_isN_ref, e_isN_lst, e_abs, e_max2, e_min2, e_int_int, e_int_bl, e_str_int, e_str_str, e_str_non, e_len_str, e_len_tup, e_len_lst, e_len_fz, e_len_ref, e_list_tup, e_list_lst, e_list_fz, e_list_ref, e_tupl_tup, e_tupl_lst, e_tupl_ref, e_newT, e_newF, e_run_nm, e_run_tp, e_runs_nil, e_runs_cons, e_tru_bl, e_tru_int, e_tru_str, e_tru_lst, e_tru_tup, e_ty_str, e_ty_lst, e_ty_ref, e_append, e_insert, e_popAt, e_pop0, e_join, e_seqI_val, e_cut_str, e_cut_tup, e_cut_lst, e_cut_fz, e_cut_ref, mChain, mAugS, mStar, mEnumK, e_isi, e_isi2, e_all, e_intS_str, e_intS_int, e_inS, e_split, e_iadd, e_tru_non]
          refine ⟨_, u, gp2, by rw [ixN_in (by omega) (by rw [List.length_map]; omega)]; simp, hN2 _ _ ⟨⟨_, rfl⟩, ⟨fs.set u (fs.getD u 0 + 1), by rw [put_same, List.map_set], by rw [List.length_set]; exact hc2.1, fun v hv => ?_⟩, fun c w e => ?_⟩⟩
          · obtain ⟨c0, c1⟩ := hc2.2 v hv
            rw [getD_set, take_next' hx2]
            by_cases huv : u = v
            · subst huv
              rw [if_pos ⟨rfl, huf⟩]
              exact ⟨by omega, ⟨fun _ => .inr (.inr (List.mem_append.mpr (.inr (List.mem_singleton.mpr rfl)))), fun _ => by omega⟩⟩
            · rw [if_neg (fun z => huv z.1)]
              refine ⟨c0, c1.trans ?_⟩
              constructor
              · rintro (z | z | z)
                · exact .inl z
                · exact .inr (.inl z)
                · exact .inr (.inr (List.mem_append.mpr (.inl z)))
              · rintro (z | z | z)
                · exact .inl z
                · exact .inr (.inl z)
                · rcases List.mem_append.mp z with z | z
                  · exact .inr (.inr z)
                  · rw [List.mem_singleton] at z
                    simp only [D.int.injEq] at z
                    omega
          · have : c ≠ p := fun z => by subst z; rw [hp] at e; cases e
            rw [put_ne this]; exact old2 c w e
      · rintro τ G2 ⟨⟨v4, rfl⟩, ⟨fs, gp2, hc2⟩, old2⟩
        rw [List.take_length] at hc2
        exact ⟨trivial, nxt _ _ _ _ row old2 gp2 (.inl hrow) hc2⟩
    rcases hs _ (List.mem_of_getElem? hx) with e | ⟨row, e, hr⟩
    · rw [e]
      simp only [thaw, mSeq, mIfS, mAsg, mRet, mRetN, mDrop, mTest, mOp, mC, mVar, mSetI, mNext, mCB, mCons, mNil, mAndT, mOrT, mNotT, mTruT, mIf, mNeg, mOr, mAnd, mNot, mLst, mTup, mBM, mBM0, mPar, mCall, mCallK, mLstRg1, mTupRg1, mRng1, mRng2, mEnum, mZipT, mFor, mSl, mNoPart, mPart, mLc, wipeM, List.set_cons_zero, List.set_cons_succ, startM, List.map_cons, List.map_nil, List.cons_append, List.nil_append, List.length_cons, List.length_nil, List.replicate, List.getElem?_cons_zero, List.getElem?_cons_succ, Option.some.injEq, Nat.reduceSub, Nat.reduceAdd, true_and, exists_eq_left, exists_eq_left', e_ix_tup, e_ix_lst, e_ix_fz, e_ix_ref, e_lo_lst, e_lo_fz, e_lo_ref, e_so_lst, e_so_fz, e_so_tup, e_so_ref, e_hd_lst, e_hd_ref, e_add_int, e_add_str, e_add_tup, e_add_lst, e_sub_int, e_mul_int, e_mul_lst, e_mul_tup, e_mod_int, e_fdv_int, e_pow_int, e_lt_int, e_le_int, e_gt_int, e_ge_int, e_eq_int, e_ne_int, e_eq_str, e_ne_str, e_isN, e_notN, e_isN_non, e_isN_int, e_isN_tup, e_isN_str, e_isN_ref, e_isN_lst, e_abs, e_max2, e_min2, e_int_int, e_int_bl, e_str_int, e_str_str, e_str_non, e_len_str, e_len_tup, e_len_lst, e_len_fz, e_len_ref, e_list_tup, e_list_lst, e_list_fz, e_list_ref, e_tupl_tup, e_tupl_lst, e_tupl_ref, e_newT, e_newF, e_run_nm, e_run_tp, e_runs_nil, e_runs_cons, e_tru_bl, e_tru_int, e_tru_str, e_tru_lst, e_tru_tup, e_ty_str, e_ty_lst, e_ty_ref, e_append, e_insert, e_popAt, e_pop0, e_join, e_seqI_val, e_cut_str, e_cut_tup, e_cut_lst, e_cut_fz, e_cut_ref, mChain, mAugS, mStar, mEnumK, e_isi, e_isi2, e_all, e_intS_str, e_intS_int, e_inS, e_split, e_iadd, e_tru_non]
      exact ⟨by decide, trivial, nxt _ _ _ _ [] old gp (.inr ⟨e, rfl⟩) hc⟩
    · rw [e]
      simp only [thaw, mSeq, mIfS, mAsg, mRet, mRetN, mDrop, mTest, mOp, mC, mVar, mSetI, mNext, mCB, mCons, mNil, mAndT, mOrT, mNotT, mTruT, mIf, mNeg, mOr, mAnd, mNot, mLst, mTup, mBM, mBM0, mPar, mCall, mCallK, mLstRg1, mTupRg1, mRng1, mRng2, mEnum, mZipT, mFor, mSl, mNoPart, mPart, mLc, wipeM, List.set_cons_zero, List.set_cons_succ, startM, List.map_cons, List.map_nil, List.cons_append, List.nil_append, List.length_cons, List.length_nil, List.replicate, List.getElem?_cons_zero, List.getElem?_cons_succ, Option.some.injEq, Nat.reduceSub, Nat.reduceAdd, true_and, exists_eq_left, exists_eq_left', e_ix_tup, e_ix_lst, e_ix_fz, e_ix_ref, e_lo_lst, e_lo_fz, e_lo_ref, e_so_lst, e_so_fz, e_so_tup, e_so_ref, e_hd_lst, e_hd_ref, e_add_int, e_add_str, e_add_tup, e_add_lst, e_sub_int, e_mul_int, e_mul_lst, e_mul_tup, e_mod_int, e_fdv_int, e_pow_int, e_lt_int, e_le_int, e_gt_int, e_ge_int, e_eq_int, e_ne_int, e_eq_str, e_ne_str, e_isN, e_notN, e_isN_non, e_isN_int, e_isN_tup, e_isN_str, e_isN_ref, e_isN_lst, e_abs, e_max2, e_min2, e_int_int, e_int_bl, e_str_int, e_str_str, e_str_non, e_len_str, e_len_tup, e_len_lst, e_len_fz, e_len_ref, e_list_tup, e_list_lst, e_list_fz, e_list_ref, e_tupl_tup, e_tupl_lst, e_tupl_ref, e_newT, e_newF, e_run_nm, e_run_tp, e_runs_nil, e_runs_cons, e_tru_bl, e_tru_int, e_tru_str, e_tru_lst, e_tru_tup, e_ty_str, e_ty_lst, e_ty_ref, e_append, e_insert, e_popAt, e_pop0, e_join, e_seqI_val, e_cut_str, e_cut_tup, e_cut_lst, e_cut_fz, e_cut_ref, mChain, mAugS, mStar, mEnumK, e_isi, e_isi2, e_all, e_intS_str, e_intS_int, e_inS, e_split, e_iadd, e_tru_non]
      cases row with
      | nil =>
        simp only [List.isEmpty_nil, Bool.not_true, mSeq, mIfS, mAsg, mRet, mRetN, mDrop, mTest, mOp, mC, mVar, mSetI, mNext, mCB, mCons, mNil, mAndT, mOrT, mNotT, mTruT, mIf, mNeg, mOr, mAnd, mNot, mLst, mTup, mBM, mBM0, mPar, mCall, mCallK, mLstRg1, mTupRg1, mRng1, mRng2, mEnum, mZipT, mFor, mSl, mNoPart, mPart, mLc, wipeM, List.set_cons_zero, List.set_cons_succ, startM, List.map_cons, List.map_nil, List.cons_append, List.nil_append, List.length_cons, List.length_nil, List.replicate, List.getElem?_cons_zero, List.getElem?_cons_succ, Option.some.injEq, Nat.reduceSub, Nat.reduceAdd, true_and, exists_eq_left, exists_eq_left', e_ix_tup, e_ix_lst, e_ix_fz, e_ix_ref, e_lo_lst, e_lo_fz, e_lo_ref, e_so_lst, e_so_fz, e_so_tup, e_so_ref, e_hd_lst, e_hd_ref, e_add_int, e_add_str, e_add_tup, e_add_lst, e_sub_int, e_mul_int, e_mul_lst, e_mul_tup, e_mod_int, e_fdv_int, e_pow_int, e_lt_int, e_le_int, e_gt_int, e_ge_int, e_eq_int, e_ne_int, e_eq_str, e_ne_str, e_isN, e_notN, e_isN_non, e_isN_int, e_isN_tup, e_isN_str, e_isN_ref, e_isN_lst, e_abs, e_max2, e_min2, e_int_int, e_int_bl, e_str_int, e_str_str, e_str_non, e_len_str, e_len_tup, e_len_lst, e_len_fz, e_len_ref, e_list_tup, e_list_lst, e_list_fz, e_list_ref, e_tupl_tup, e_tupl_lst, e_tupl_ref, e_newT, e_newF, e_run_nm, e_run_tp, e_runs_nil, e_runs_cons, e_tru_bl, e_tru_int, e_tru_str, e_tru_lst, e_tru_tup, e_ty_str, e_ty_lst, e_ty_ref, e_append, e_insert, e_popAt, e_pop0, e_join, e_seqI_val, e_cut_str, e_cut_tup, e_cut_lst, e_cut_fz, e_cut_ref, mChain, mAugS, mStar, mEnumK, e_isi, e_isi2, e_all, e_intS_str, e_intS_int, e_inS, e_split, e_iadd, e_tru_non]
        exact ⟨by decide, trivial, nxt _ _ _ _ [] old gp (.inl e) hc⟩
      | cons y ys =>
        simp only [List.isEmpty_cons, Bool.not_false, mSeq, mIfS, mAsg, mRet, mRetN, mDrop, mTest, mOp, mC, mVar, mSetI, mNext, mCB, mCons, mNil, mAndT, mOrT, mNotT, mTruT, mIf, mNeg, mOr, mAnd, mNot, mLst, mTup, mBM, mBM0, mPar, mCall, mCallK, mLstRg1, mTupRg1, mRng1, mRng2, mEnum, mZipT, mFor, mSl, mNoPart, mPart, mLc, wipeM, List.set_cons_zero, List.set_cons_succ, startM, List.map_cons, List.map_nil, List.cons_append, List.nil_append, List.length_cons, List.length_nil, List.replicate, List.getElem?_cons_zero, List.getElem?_cons_succ, Option.some.injEq, Nat.reduceSub, Nat.reduceAdd, true_and, exists_eq_left, exists_eq_left', e_ix_tup, e_ix_lst, e_ix_fz, e_ix_ref, e_lo_lst, e_lo_fz, e_lo_ref, e_so_lst, e_so_fz, e_so_tup, e_so_ref, e_hd_lst, e_hd_ref, e_add_int, e_add_str, e_add_tup, e_add_lst, e_sub_int, e_mul_int, e_mul_lst, e_mul_tup, e_mod_int, e_fdv_int, e_pow_int, e_lt_int, e_le_int, e_gt_int, e_ge_int, e_eq_int, e_ne_int, e_eq_str, e_ne_str, e_isN, e_notN, e_isN_non, e_isN_int, e_isN_tup, e_isN_str, e_isN_ref, e_isN_lst, e_abs, e_max2, e_min2, e_int_int, e_int_bl, e_str_int, e_str_str, e_str_non, e_len_str, e_len_tup, e_len_lst, e_len_fz, e_len_ref, e_list_tup, e_list_lst, e_list_fz, e_list_ref, e_tupl_tup, e_tupl_lst, e_tupl_ref, e_newT, e_newF, e_run_nm, e_run_tp, e_runs_nil, e_runs_cons, e_tru_bl, e_tru_int, e_tru_str, e_tru_lst, e_tru_tup, e_ty_str, e_ty_lst, e_ty_ref, e_append, e_insert, e_popAt, e_pop0, e_join, e_seqI_val, e_cut_str, e_cut_tup, e_cut_lst, e_cut_fz, e_cut_ref, mChain, mAugS, mStar, mEnumK, e_isi, e_isi2, e_all, e_intS_str, e_intS_int, e_inS, e_split, e_iadd, e_tru_non]
        exact loopN _ hr e
  · rintro τ G' ⟨⟨v3, v4, rfl⟩, ⟨fs, gp, hc⟩, old⟩
    refine ⟨old a _ ga, ?_⟩
    rw [List.length_map, List.take_length] at hc
    simp only [b_reference_counts_6, mSeq, mIfS, mAsg, mRet, mRetN, mDrop, mTest, mOp, mC, mVar, mSetI, mNext, mCB, mCons, mNil, mAndT, mOrT, mNotT, mTruT, mIf, mNeg, mOr, mAnd, mNot, mLst, mTup, mBM, mBM0, mPar, mCall, mCallK, mLstRg1, mTupRg1, mRng1, mRng2, mEnum, mZipT, mFor, mSl, mNoPart, mPart, mLc, wipeM, List.set_cons_zero, List.set_cons_succ, startM, List.map_cons, List.map_nil, List.cons_append, List.nil_append, List.length_cons, List.length_nil, List.replicate, List.getElem?_cons_zero, List.getElem?_cons_succ, Option.some.injEq, Nat.reduceSub, Nat.reduceAdd, true_and, exists_eq_left, exists_eq_left', e_ix_tup, e_ix_lst, e_ix_fz, e_ix_ref, e_lo_lst, e_lo_fz, e_lo_ref, e_so_lst, e_so_fz, e_so_tup, e_so_ref, e_hd_lst, e_hd_ref, e_add_int, e_add_str, e_add_tup, e_add_lst, e_sub_int, e_mul_int, e_mul_lst, e_mul_tup, e_mod_int, e_fdv_int, e_pow_int, e_lt_int, e_le_int, e_gt_int, e_ge_int, e_eq_int, e_ne_int, e_eq_str, e_ne_str, e_isN, e_notN, e_isN_non, e_isN_int, e_isN_tup, e_isN_str, e_isN_ref, e_isN_lst, e_abs, e_max2, e_min2, e_int_int, e_int_bl, e_str_int, e_str_str, e_str_non, e_len_str, e_len_tup, e_len_lst, e_len_fz, e_len_ref, e_list_tup, e_list_lst, e_list_fz, e_list_ref, e_tupl_tup, e_tupl_lst, e_tupl_ref, e_newT, e_newF, e_run_nm, e_run_tp, e_runs_nil, e_runs_cons, e_tru_bl, e_tru_int, e_tru_str, e_tru_lst, e_tru_tup, e_ty_str, e_ty_lst, e_ty_ref, e_append, e_insert, e_popAt, e_pop0, e_join, e_seqI_val, e_cut_str, e_cut_tup, e_cut_lst, e_cut_fz, e_cut_ref, mChain, mAugS, mStar, mEnumK, e_isi, e_isi2, e_all, e_intS_str, e_intS_int, e_inS, e_split, e_iadd, e_tru_non]
    refine less_frz old gp hp (kq fs hc.1 fun v hv => ?_)
    have := (hc.2 v hv).2
    rw [this]
    constructor
    · rintro (z | z | z)
      · exact .inl z
      · exact .inr z
      · exact nomatch z
    · rintro (z | z)
      · exact .inl z
      · exact .inr (.inl z)
  · refine ⟨by rw [List.length_map], fun v hv => ?_⟩
    rw [List.length_map] at hv
    have e : fs0.getD v 0 = fs0[v] := by rw [List.getD_eq_getElem?_getD, List.getElem?_eq_getElem hv]; rfl
    have h0 := hfs fs0[v] (List.getElem_mem _)
    rw [e, List.getElem?_map, List.getElem?_eq_getElem hv, List.take_zero]
    refine ⟨h0, ⟨fun z => .inl ?_, ?_⟩⟩
    · intro z2
      simp only [Option.map_some, Option.some.injEq, D.int.injEq] at z2
      omega
    · rintro (z | ⟨r, m, _⟩ | z)
      · have : fs0[v] ≠ 0 := fun z2 => z (by rw [z2]; rfl)
        omega
      · exact nomatch m
      · exact nomatch z
  · have : c ≠ p := fun z => by subst z; rw [hp] at e; cases e
    rw [put_ne this]; exact e
end Q82

set_option maxRecDepth 100000
namespace Q82
open PySem PySem.Spec L2 ML
open PyProof.Rows hiding St
theorem at_map {α : Type} {f : α → D} {xs : List α} {v : Nat} {x : α} (h : xs[v]? = some x) : atI (xs.map f) ((v : Nat) : Int) = some (f x) := by
  have hv := (List.getElem?_eq_some_iff.mp h).1
  obtain ⟨w, hw, _, hg⟩ := at_in (xs := xs.map f) (i := (v : Nat)) (by omega) (by rw [List.length_map]; omega)
  rw [Int.toNat_natCast, List.getElem?_map, h] at hg
  rw [hw]; exact hg.symm
theorem at_self {xs : List D} {v : Nat} {x : D} (h : xs[v]? = some x) : atI xs ((v : Nat) : Int) = some x := by
  have := at_map (f := id) h
  rwa [List.map_id] at this
theorem law_first_fault (x0 x1 : D) (G : Gp) (q : MK) (h : p_first_fault x0 x1 G q) : b_first_fault { nx := fun _ G' => less q .non G', rt := less q } (startM ["slots", "outside", "size", "node", "found"] [x0, x1]) G := by
  obtain ⟨slots, outs, a, b, rfl, rfl, ga, gb, hh, hc, hq⟩ := h
  have hh' := hh
  obtain ⟨hlen, h40, hs, ho⟩ := hh
  simp only [b_first_fault, mSeq, mIfS, mAsg, mRet, mRetN, mDrop, mTest, mOp, mC, mVar, mSetI, mNext, mCB, mCons, mNil, mAndT, mOrT, mNotT, mTruT, mIf, mNeg, mOr, mAnd, mNot, mLst, mTup, mBM, mBM0, mPar, mCall, mCallK, mLstRg1, mTupRg1, mRng1, mRng2, mEnum, mZipT, mFor, mSl, mNoPart, mPart, mLc, wipeM, List.set_cons_zero, List.set_cons_succ, startM, List.map_cons, List.map_nil, List.cons_append, List.nil_append, List.length_cons, List.length_nil, List.replicate, List.getElem?_cons_zero, List.getElem?_cons_succ, Option.some.injEq, Nat.reduceSub, Nat.reduceAdd, true_and, exists_eq_left, exists_eq_left', e_ix_tup, e_ix_lst, e_ix_fz, e_ix_ref, e_lo_lst, e_lo_fz, e_lo_ref, e_so_lst, e_so_fz, e_so_tup, e_so_ref, e_hd_lst, e_hd_ref, e_add_int, e_add_str, e_add_tup, e_add_lst, e_sub_int, e_mul_int, e_mul_lst, e_mul_tup, e_mod_int, e_fdv_int, e_pow_int, e_lt_int, e_le_int, e_gt_int, e_ge_int, e_eq_int, e_ne_int, e_eq_str, e_ne_str, e_isN, e_notN, e_isN_non, e_isN_int, e_isN_tup, e_isN_str, e_isN_ref, e_isN_lst, e_abs, e_max2, e_min2, e_int_int, e_int_bl, e_str_int, e_str_str, e_str_non, e_len_str, e_len_tup, e_len_lst, e_len_fz, e_len_ref, e_list_tup, e_list_lst, e_list_fz, e_list_ref, e_tupl_tup, e_tupl_lst, e_tupl_ref, e_newT, e_newF, e_run_nm, e_run_tp, e_runs_nil, e_runs_cons, e_tru_bl, e_tru_int, e_tru_str, e_tru_lst, e_tru_tup, e_ty_str, e_ty_lst, e_ty_ref, e_append, e_insert, e_popAt, e_pop0, e_join, e_seqI_val, e_cut_str, e_cut_tup, e_cut_lst, e_cut_fz, e_cut_ref, mChain, mAugS, mStar, mEnumK, e_isi, e_isi2, e_all, e_intS_str, e_intS_int, e_inS, e_split, e_ix_str, e_iadd, e_tru_non]
  refine ⟨_, ga, ?_⟩
  simp only [List.length_map, b_first_fault_2, mSeq, mIfS, mAsg, mRet, mRetN, mDrop, mTest, mOp, mC, mVar, mSetI, mNext, mCB, mCons, mNil, mAndT, mOrT, mNotT, mTruT, mIf, mNeg, mOr, mAnd, mNot, mLst, mTup, mBM, mBM0, mPar, mCall, mCallK, mLstRg1, mTupRg1, mRng1, mRng2, mEnum, mZipT, mFor, mSl, mNoPart, mPart, mLc, wipeM, List.set_cons_zero, List.set_cons_succ, startM, List.map_cons, List.map_nil, List.cons_append, List.nil_append, List.length_cons, List.length_nil, List.replicate, List.getElem?_cons_zero, List.getElem?_cons_succ, Option.some.injEq, Nat.reduceSub, Nat.reduceAdd, true_and, exists_eq_left, exists_eq_left', e_ix_tup, e_ix_lst, e_ix_fz, e_ix_ref, e_lo_lst, e_lo_fz, e_lo_ref, e_so_lst, e_so_fz, e_so_tup, e_so_ref, e_hd_lst, e_hd_ref, e_add_int, e_add_str, e_add_tup, e_add_lst, e_sub_int, e_mul_int, e_mul_lst, e_mul_tup, e_mod_int, e_fdv_int, e_pow_int, e_lt_int, e_le_int, e_gt_int, e_ge_int, e_eq_int, e_ne_int, e_eq_str, e_ne_str, e_isN, e_notN, e_isN_non, e_isN_int, e_isN_tup, e_isN_str, e_isN_ref, e_isN_lst, e_abs, e_max2, e_min2, e_int_int, e_int_bl, e_str_int, e_str_str, e_str_non, e_len_str, e_len_tup, e_len_lst, e_len_fz, e_len_ref, e_list_tup, e_list_lst, e_list_fz, e_list_ref, e_tupl_tup, e_tupl_lst, e_tupl_ref, e_newT, e_newF, e_run_nm, e_run_tp, e_runs_nil, e_runs_cons, e_tru_bl, e_tru_int, e_tru_str, e_tru_lst, e_tru_tup, e_ty_str, e_ty_lst, e_ty_ref, e_append, e_insert, e_popAt, e_pop0, e_join, e_seqI_val, e_cut_str, e_cut_tup, e_cut_lst, e_cut_fz, e_cut_ref, mChain, mAugS, mStar, mEnumK, e_isi, e_isi2, e_all, e_intS_str, e_intS_int, e_inS, e_split, e_ix_str, e_iadd, e_tru_non]
  have hr62 : (-(2 ^ 62) : Int) ≤ (slots.length : Nat) ∧ ((slots.length : Nat) : Int) < 2 ^ 62 := ⟨by omega, by omega⟩
  refine ⟨hr62, loop_ind (fun i τ G' => G' = G ∧ ∃ v3, τ = [some (.ref a), some (.ref b), some (.int (slots.length : Nat)), v3, none]) ?_ ?_ ⟨rfl, _, rfl⟩⟩
  · rintro i w τ G' N hw ⟨rfl, v3, rfl⟩ hN
    obtain ⟨hi, rfl⟩ := rng_at hw
    have hi' : i < slots.length := by simpa using hi
    have hx : slots[i]? = some slots[i] := List.getElem?_eq_getElem hi'
    refine ⟨trivial, ?_⟩
    rw [show (0 : Int) + (i : Nat) = ((i : Nat) : Int) by omega]
    simp only [b_first_fault_3, e_sp_is_row, mSeq, mIfS, mAsg, mRet, mRetN, mDrop, mTest, mOp, mC, mVar, mSetI, mNext, mCB, mCons, mNil, mAndT, mOrT, mNotT, mTruT, mIf, mNeg, mOr, mAnd, mNot, mLst, mTup, mBM, mBM0, mPar, mCall, mCallK, mLstRg1, mTupRg1, mRng1, mRng2, mEnum, mZipT, mFor, mSl, mNoPart, mPart, mLc, wipeM, List.set_cons_zero, List.set_cons_succ, startM, List.map_cons, List.map_nil, List.cons_append, List.nil_append, List.length_cons, List.length_nil, List.replicate, List.getElem?_cons_zero, List.getElem?_cons_succ, Option.some.injEq, Nat.reduceSub, Nat.reduceAdd, true_and, exists_eq_left, exists_eq_left', e_ix_tup, e_ix_lst, e_ix_fz, e_ix_ref, e_lo_lst, e_lo_fz, e_lo_ref, e_so_lst, e_so_fz, e_so_tup, e_so_ref, e_hd_lst, e_hd_ref, e_add_int, e_add_str, e_add_tup, e_add_lst, e_sub_int, e_mul_int, e_mul_lst, e_mul_tup, e_mod_int, e_fdv_int, e_pow_int, e_lt_int, e_le_int, e_gt_int, e_ge_int, e_eq_int, e_ne_int, e_eq_str, e_ne_str, e_isN, e_notN, e_isN_non, e_isN_int, e_isN_tup, e_isN_str, e_isN_ref, e_isN_lst, e_abs, e_max2, e_min2, e_int_int, e_int_bl, e_str_int, e_str_str, e_str_non, e_len_str, e_len_tup, e_len_lst, e_len_fz, e_len_ref, e_list_tup, e_list_lst, e_list_fz, e_list_ref, e_tupl_tup, e_tupl_lst, e_tupl_ref, e_newT, e_newF, e_run_nm, e_run_tp, e_runs_nil, e_runs_cons, e_tru_bl, e_tru_int, e_tru_str, e_tru_lst, e_tru_tup, e_ty_str, e_ty_lst, e_ty_ref, e_append, e_insert, e_popAt, e_pop0, e_join, e_seqI_val, e_cut_str, e_cut_tup, e_cut_lst, e_cut_fz, e_cut_ref, mChain, mAugS, mStar, mEnumK, e_isi, e_isi2, e_all, e_intS_str, e_intS_int, e_inS, e_split, e_ix_str, e_iadd, e_tru_non]
    refine ⟨_, _, ga, at_map hx, slots.length, rfl, ?_, ?_⟩
    · rcases hs _ (List.mem_of_getElem? hx) with e | ⟨row, e, hr⟩
      · rw [e]; exact .inl rfl
      · rw [e]; exact .inr ⟨row, rfl, hr⟩
    · simp only [Bool.not_true, mSeq, mIfS, mAsg, mRet, mRetN, mDrop, mTest, mOp, mC, mVar, mSetI, mNext, mCB, mCons, mNil, mAndT, mOrT, mNotT, mTruT, mIf, mNeg, mOr, mAnd, mNot, mLst, mTup, mBM, mBM0, mPar, mCall, mCallK, mLstRg1, mTupRg1, mRng1, mRng2, mEnum, mZipT, mFor, mSl, mNoPart, mPart, mLc, wipeM, List.set_cons_zero, List.set_cons_succ, startM, List.map_cons, List.map_nil, List.cons_append, List.nil_append, List.length_cons, List.length_nil, List.replicate, List.getElem?_cons_zero, List.getElem?_cons_succ, Option.some.injEq, Nat.reduceSub, Nat.reduceAdd, true_and, exists_eq_left, exists_eq_left', e_ix_tup, e_ix_lst, e_ix_fz, e_ix_ref, e_lo_lst, e_lo_fz, e_lo_ref, e_so_lst, e_so_fz, e_so_tup, e_so_ref, e_hd_lst, e_hd_ref, e_add_int, e_add_str, e_add_tup, e_add_lst, e_sub_int, e_mul_int, e_mul_lst, e_mul_tup, e_mod_int, e_fdv_int, e_pow_int, e_lt_int, e_le_int, e_gt_int, e_ge_int, e_eq_int, e_ne_int, e_eq_str, e_ne_str, e_isN, e_notN, e_isN_non, e_isN_int, e_isN_tup, e_isN_str, e_isN_ref, e_isN_lst, e_abs, e_max2, e_min2, e_int_int, e_int_bl, e_str_int, e_str_str, e_str_non, e_len_str, e_len_tup, e_len_lst, e_len_fz, e_len_ref, e_list_tup, e_list_lst, e_list_fz, e_list_ref, e_tupl_tup, e_tupl_lst, e_tupl_ref, e_newT, e_newF, e_run_nm, e_run_tp, e_runs_nil, e_runs_cons, e_tru_bl, e_tru_int, e_tru_str, e_tru_lst, e_tru_tup, e_ty_str, e_ty_lst, e_ty_ref, e_append, e_insert, e_popAt, e_pop0, e_join, e_seqI_val, e_cut_str, e_cut_tup, e_cut_lst, e_cut_fz, e_cut_ref, mChain, mAugS, mStar, mEnumK, e_isi, e_isi2, e_all, e_intS_str, e_intS_int, e_inS, e_split, e_ix_str, e_iadd, e_tru_non]
      exact hN _ _ ⟨rfl, _, rfl⟩
  rintro τ G' ⟨rfl, v3, rfl⟩
  refine ⟨trivial, ?_⟩
  simp only [b_first_fault_5, mSeq, mIfS, mAsg, mRet, mRetN, mDrop, mTest, mOp, mC, mVar, mSetI, mNext, mCB, mCons, mNil, mAndT, mOrT, mNotT, mTruT, mIf, mNeg, mOr, mAnd, mNot, mLst, mTup, mBM, mBM0, mPar, mCall, mCallK, mLstRg1, mTupRg1, mRng1, mRng2, mEnum, mZipT, mFor, mSl, mNoPart, mPart, mLc, wipeM, List.set_cons_zero, List.set_cons_succ, startM, List.map_cons, List.map_nil, List.cons_append, List.nil_append, List.length_cons, List.length_nil, List.replicate, List.getElem?_cons_zero, List.getElem?_cons_succ, Option.some.injEq, Nat.reduceSub, Nat.reduceAdd, true_and, exists_eq_left, exists_eq_left', e_ix_tup, e_ix_lst, e_ix_fz, e_ix_ref, e_lo_lst, e_lo_fz, e_lo_ref, e_so_lst, e_so_fz, e_so_tup, e_so_ref, e_hd_lst, e_hd_ref, e_add_int, e_add_str, e_add_tup, e_add_lst, e_sub_int, e_mul_int, e_mul_lst, e_mul_tup, e_mod_int, e_fdv_int, e_pow_int, e_lt_int, e_le_int, e_gt_int, e_ge_int, e_eq_int, e_ne_int, e_eq_str, e_ne_str, e_isN, e_notN, e_isN_non, e_isN_int, e_isN_tup, e_isN_str, e_isN_ref, e_isN_lst, e_abs, e_max2, e_min2, e_int_int, e_int_bl, e_str_int, e_str_str, e_str_non, e_len_str, e_len_tup, e_len_lst, e_len_fz, e_len_ref, e_list_tup, e_list_lst, e_list_fz, e_list_ref, e_tupl_tup, e_tupl_lst, e_tupl_ref, e_newT, e_newF, e_run_nm, e_run_tp, e_runs_nil, e_runs_cons, e_tru_bl, e_tru_int, e_tru_str, e_tru_lst, e_tru_tup, e_ty_str, e_ty_lst, e_ty_ref, e_append, e_insert, e_popAt, e_pop0, e_join, e_seqI_val, e_cut_str, e_cut_tup, e_cut_lst, e_cut_fz, e_cut_ref, mChain, mAugS, mStar, mEnumK, e_isi, e_isi2, e_all, e_intS_str, e_intS_int, e_inS, e_split, e_ix_str, e_iadd, e_tru_non]
  refine ⟨hr62, loop_ind (fun i τ G2 => G2 = G' ∧ ∃ v3, τ = [some (.ref a), some (.ref b), some (.int (slots.length : Nat)), v3, none]) ?_ ?_ ⟨rfl, _, rfl⟩⟩
  · rintro i w τ G2 N hw ⟨rfl, v3, rfl⟩ hN
    obtain ⟨hi, rfl⟩ := rng_at hw
    have hi' : i < slots.length := by simpa using hi
    have hx : outs[i]? = some outs[i] := List.getElem?_eq_getElem (by omega)
    refine ⟨trivial, ?_⟩
    rw [show (0 : Int) + (i : Nat) = ((i : Nat) : Int) by omega]
    simp only [b_first_fault_6, e_sp_is_between, mSeq, mIfS, mAsg, mRet, mRetN, mDrop, mTest, mOp, mC, mVar, mSetI, mNext, mCB, mCons, mNil, mAndT, mOrT, mNotT, mTruT, mIf, mNeg, mOr, mAnd, mNot, mLst, mTup, mBM, mBM0, mPar, mCall, mCallK, mLstRg1, mTupRg1, mRng1, mRng2, mEnum, mZipT, mFor, mSl, mNoPart, mPart, mLc, wipeM, List.set_cons_zero, List.set_cons_succ, startM, List.map_cons, List.map_nil, List.cons_append, List.nil_append, List.length_cons, List.length_nil, List.replicate, List.getElem?_cons_zero, List.getElem?_cons_succ, Option.some.injEq, Nat.reduceSub, Nat.reduceAdd, true_and, exists_eq_left, exists_eq_left', e_ix_tup, e_ix_lst, e_ix_fz, e_ix_ref, e_lo_lst, e_lo_fz, e_lo_ref, e_so_lst, e_so_fz, e_so_tup, e_so_ref, e_hd_lst, e_hd_ref, e_add_int, e_add_str, e_add_tup, e_add_lst, e_sub_int, e_mul_int, e_mul_lst, e_mul_tup, e_mod_int, e_fdv_int, e_pow_int, e_lt_int, e_le_int, e_gt_int, e_ge_int, e_eq_int, e_ne_int, e_eq_str, e_ne_str, e_isN, e_notN, e_isN_non, e_isN_int, e_isN_tup, e_isN_str, e_isN_ref, e_isN_lst, e_abs, e_max2, e_min2, e_int_int, e_int_bl, e_str_int, e_str_str, e_str_non, e_len_str, e_len_tup, e_len_lst, e_len_fz, e_len_ref, e_list_tup, e_list_lst, e_list_fz, e_list_ref, e_tupl_tup, e_tupl_lst, e_tupl_ref, e_newT, e_newF, e_run_nm, e_run_tp, e_runs_nil, e_runs_cons, e_tru_bl, e_tru_int, e_tru_str, e_tru_lst, e_tru_tup, e_ty_str, e_ty_lst, e_ty_ref, e_append, e_insert, e_popAt, e_pop0, e_join, e_seqI_val, e_cut_str, e_cut_tup, e_cut_lst, e_cut_fz, e_cut_ref, mChain, mAugS, mStar, mEnumK, e_isi, e_isi2, e_all, e_intS_str, e_intS_int, e_inS, e_split, e_ix_str, e_iadd, e_tru_non]
    obtain ⟨c, ec, c0, c1⟩ := ho _ (List.mem_of_getElem? hx)
    refine ⟨_, _, gb, at_self hx, c, 0, 9, ec, rfl, rfl, ?_⟩
    rw [decide_eq_true c0, decide_eq_true c1]
    simp only [Bool.true_and, Bool.not_true, mSeq, mIfS, mAsg, mRet, mRetN, mDrop, mTest, mOp, mC, mVar, mSetI, mNext, mCB, mCons, mNil, mAndT, mOrT, mNotT, mTruT, mIf, mNeg, mOr, mAnd, mNot, mLst, mTup, mBM, mBM0, mPar, mCall, mCallK, mLstRg1, mTupRg1, mRng1, mRng2, mEnum, mZipT, mFor, mSl, mNoPart, mPart, mLc, wipeM, List.set_cons_zero, List.set_cons_succ, startM, List.map_cons, List.map_nil, List.cons_append, List.nil_append, List.length_cons, List.length_nil, List.replicate, List.getElem?_cons_zero, List.getElem?_cons_succ, Option.some.injEq, Nat.reduceSub, Nat.reduceAdd, true_and, exists_eq_left, exists_eq_left', e_ix_tup, e_ix_lst, e_ix_fz, e_ix_ref, e_lo_lst, e_lo_fz, e_lo_ref, e_so_lst, e_so_fz, e_so_tup, e_so_ref, e_hd_lst, e_hd_ref, e_add_int, e_add_str, e_add_tup, e_add_lst, e_sub_int, e_mul_int, e_mul_lst, e_mul_tup, e_mod_int, e_fdv_int, e_pow_int, e_lt_int, e_le_int, e_gt_int, e_ge_int, e_eq_int, e_ne_int, e_eq_str, e_ne_str, e_isN, e_notN, e_isN_non, e_isN_int, e_isN_tup, e_isN_str, e_isN_ref, e_isN_lst, e_abs, e_max2, e_min2, e_int_int, e_int_bl, e_str_int, e_str_str, e_str_non, e_len_str, e_len_tup, e_len_lst, e_len_fz, e_len_ref, e_list_tup, e_list_lst, e_list_fz, e_list_ref, e_tupl_tup, e_tupl_lst, e_tupl_ref, e_newT, e_newF, e_run_nm, e_run_tp, e_runs_nil, e_runs_cons, e_tru_bl, e_tru_int, e_tru_str, e_tru_lst, e_tru_tup, e_ty_str, e_ty_lst, e_ty_ref, e_append, e_insert, e_popAt, e_pop0, e_join, e_seqI_val, e_cut_str, e_cut_tup, e_cut_lst, e_cut_fz, e_cut_ref, mChain, mAugS, mStar, mEnumK, e_isi, e_isi2, e_all, e_intS_str, e_intS_int, e_inS, e_split, e_ix_str, e_iadd, e_tru_non]
    exact hN _ _ ⟨rfl, _, rfl⟩
  rintro τ G2 ⟨rfl, v3, rfl⟩
  refine ⟨trivial, ?_⟩
  simp only [b_first_fault_8, e_sp_reference_counts, mSeq, mIfS, mAsg, mRet, mRetN, mDrop, mTest, mOp, mC, mVar, mSetI, mNext, mCB, mCons, mNil, mAndT, mOrT, mNotT, mTruT, mIf, mNeg, mOr, mAnd, mNot, mLst, mTup, mBM, mBM0, mPar, mCall, mCallK, mLstRg1, mTupRg1, mRng1, mRng2, mEnum, mZipT, mFor, mSl, mNoPart, mPart, mLc, wipeM, List.set_cons_zero, List.set_cons_succ, startM, List.map_cons, List.map_nil, List.cons_append, List.nil_append, List.length_cons, List.length_nil, List.replicate, List.getElem?_cons_zero, List.getElem?_cons_succ, Option.some.injEq, Nat.reduceSub, Nat.reduceAdd, true_and, exists_eq_left, exists_eq_left', e_ix_tup, e_ix_lst, e_ix_fz, e_ix_ref, e_lo_lst, e_lo_fz, e_lo_ref, e_so_lst, e_so_fz, e_so_tup, e_so_ref, e_hd_lst, e_hd_ref, e_add_int, e_add_str, e_add_tup, e_add_lst, e_sub_int, e_mul_int, e_mul_lst, e_mul_tup, e_mod_int, e_fdv_int, e_pow_int, e_lt_int, e_le_int, e_gt_int, e_ge_int, e_eq_int, e_ne_int, e_eq_str, e_ne_str, e_isN, e_notN, e_isN_non, e_isN_int, e_isN_tup, e_isN_str, e_isN_ref, e_isN_lst, e_abs, e_max2, e_min2, e_int_int, e_int_bl, e_str_int, e_str_str, e_str_non, e_len_str, e_len_tup, e_len_lst, e_len_fz, e_len_ref, e_list_tup, e_list_lst, e_list_fz, e_list_ref, e_tupl_tup, e_tupl_lst, e_tupl_ref, e_newT, e_newF, e_run_nm, e_run_tp, e_runs_nil, e_runs_cons, e_tru_bl, e_tru_int, e_tru_str, e_tru_lst, e_tru_tup, e_ty_str, e_ty_lst, e_ty_ref, e_append, e_insert, e_popAt, e_pop0, e_join, e_seqI_val, e_cut_str, e_cut_tup, e_cut_lst, e_cut_fz, e_cut_ref, mChain, mAugS, mStar, mEnumK, e_isi, e_isi2, e_all, e_intS_str, e_intS_int, e_inS, e_split, e_ix_str, e_iadd, e_tru_non]
  refine ⟨slots, outs, a, b, rfl, rfl, ga, gb, hh', fun fs fl fc => ?_⟩
  have fat : ∀ i, i < slots.length → atI (fs.map D.int) ((i : Nat) : Int) = some (.int (fs.getD i 0)) := fun i hi => by
    have hf : i < fs.length := by omega
    have := at_map (f := D.int) (List.getElem?_eq_getElem hf)
    rw [List.getD_eq_getElem?_getD, List.getElem?_eq_getElem hf]; exact this
  simp only [b_first_fault_9, mSeq, mIfS, mAsg, mRet, mRetN, mDrop, mTest, mOp, mC, mVar, mSetI, mNext, mCB, mCons, mNil, mAndT, mOrT, mNotT, mTruT, mIf, mNeg, mOr, mAnd, mNot, mLst, mTup, mBM, mBM0, mPar, mCall, mCallK, mLstRg1, mTupRg1, mRng1, mRng2, mEnum, mZipT, mFor, mSl, mNoPart, mPart, mLc, wipeM, List.set_cons_zero, List.set_cons_succ, startM, List.map_cons, List.map_nil, List.cons_append, List.nil_append, List.length_cons, List.length_nil, List.replicate, List.getElem?_cons_zero, List.getElem?_cons_succ, Option.some.injEq, Nat.reduceSub, Nat.reduceAdd, true_and, exists_eq_left, exists_eq_left', e_ix_tup, e_ix_lst, e_ix_fz, e_ix_ref, e_lo_lst, e_lo_fz, e_lo_ref, e_so_lst, e_so_fz, e_so_tup, e_so_ref, e_hd_lst, e_hd_ref, e_add_int, e_add_str, e_add_tup, e_add_lst, e_sub_int, e_mul_int, e_mul_lst, e_mul_tup, e_mod_int, e_fdv_int, e_pow_int, e_lt_int, e_le_int, e_gt_int, e_ge_int, e_eq_int, e_ne_int, e_eq_str, e_ne_str, e_isN, e_notN, e_isN_non, e_isN_int, e_isN_tup, e_isN_str, e_isN_ref, e_isN_lst, e_abs, e_max2, e_min2, e_int_int, e_int_bl, e_str_int, e_str_str, e_str_non, e_len_str, e_len_tup, e_len_lst, e_len_fz, e_len_ref, e_list_tup, e_list_lst, e_list_fz, e_list_ref, e_tupl_tup, e_tupl_lst, e_tupl_ref, e_newT, e_newF, e_run_nm, e_run_tp, e_runs_nil, e_runs_cons, e_tru_bl, e_tru_int, e_tru_str, e_tru_lst, e_tru_tup, e_ty_str, e_ty_lst, e_ty_ref, e_append, e_insert, e_popAt, e_pop0, e_join, e_seqI_val, e_cut_str, e_cut_tup, e_cut_lst, e_cut_fz, e_cut_ref, mChain, mAugS, mStar, mEnumK, e_isi, e_isi2, e_all, e_intS_str, e_intS_int, e_inS, e_split, e_ix_str, e_iadd, e_tru_non]
  refine ⟨hr62, loop_ind (fun i τ G3 => G3 = G2 ∧ ∃ v3, τ = [some (.ref a), some (.ref b), some (.int (slots.length : Nat)), v3, some (.lst (fs.map D.int))]) ?_ ?_ ⟨rfl, _, rfl⟩⟩
  · rintro i w τ G3 N hw ⟨rfl, v3, rfl⟩ hN
    obtain ⟨hi, rfl⟩ := rng_at hw
    have hi' : i < slots.length := by simpa using hi
    have hx : slots[i]? = some slots[i] := List.getElem?_eq_getElem hi'
    refine ⟨trivial, ?_⟩
    rw [show (0 : Int) + (i : Nat) = ((i : Nat) : Int) by omega]
    simp only [b_first_fault_10, mSeq, mIfS, mAsg, mRet, mRetN, mDrop, mTest, mOp, mC, mVar, mSetI, mNext, mCB, mCons, mNil, mAndT, mOrT, mNotT, mTruT, mIf, mNeg, mOr, mAnd, mNot, mLst, mTup, mBM, mBM0, mPar, mCall, mCallK, mLstRg1, mTupRg1, mRng1, mRng2, mEnum, mZipT, mFor, mSl, mNoPart, mPart, mLc, wipeM, List.set_cons_zero, List.set_cons_succ, startM, List.map_cons, List.map_nil, List.cons_append, List.nil_append, List.length_cons, List.length_nil, List.replicate, List.getElem?_cons_zero, List.getElem?_cons_succ, Option.some.injEq, Nat.reduceSub, Nat.reduceAdd, true_and, exists_eq_left, exists_eq_left', e_ix_tup, e_ix_lst, e_ix_fz, e_ix_ref, e_lo_lst, e_lo_fz, e_lo_ref, e_so_lst, e_so_fz, e_so_tup, e_so_ref, e_hd_lst, e_hd_ref, e_add_int, e_add_str, e_add_tup, e_add_lst, e_sub_int, e_mul_int, e_mul_lst, e_mul_tup, e_mod_int, e_fdv_int, e_pow_int, e_lt_int, e_le_int, e_gt_int, e_ge_int, e_eq_int, e_ne_int, e_eq_str, e_ne_str, e_isN, e_notN, e_isN_non, e_isN_int, e_isN_tup, e_isN_str, e_isN_ref, e_isN_lst, e_abs, e_max2, e_min2, e_int_int, e_int_bl, e_str_int, e_str_str, e_str_non, e_len_str, e_len_tup, e_len_lst, e_len_fz, e_len_ref, e_list_tup, e_list_lst, e_list_fz, e_list_ref, e_tupl_tup, e_tupl_lst, e_tupl_ref, e_newT, e_newF, e_run_nm, e_run_tp, e_runs_nil, e_runs_cons, e_tru_bl, e_tru_int, e_tru_str, e_tru_lst, e_tru_tup, e_ty_str, e_ty_lst, e_ty_ref, e_append, e_insert, e_popAt, e_pop0, e_join, e_seqI_val, e_cut_str, e_cut_tup, e_cut_lst, e_cut_fz, e_cut_ref, mChain, mAugS, mStar, mEnumK, e_isi, e_isi2, e_all, e_intS_str, e_intS_int, e_inS, e_split, e_ix_str, e_iadd, e_tru_non]
    refine ⟨_, _, ga, at_map hx, ?_⟩
    rcases hs _ (List.mem_of_getElem? hx) with e | ⟨row, e, hr⟩
    · obtain ⟨z, nh⟩ := (hc i _ hx).1 e
      have hf := fc i (by omega)
      have nf : ¬ 0 < fs.getD i 0 := fun z2 => by
        rcases hf.mp z2 with z3 | z3
        · exact z3 z
        · exact nh z3
      rw [e]
      simp only [thaw, mSeq, mIfS, mAsg, mRet, mRetN, mDrop, mTest, mOp, mC, mVar, mSetI, mNext, mCB, mCons, mNil, mAndT, mOrT, mNotT, mTruT, mIf, mNeg, mOr, mAnd, mNot, mLst, mTup, mBM, mBM0, mPar, mCall, mCallK, mLstRg1, mTupRg1, mRng1, mRng2, mEnum, mZipT, mFor, mSl, mNoPart, mPart, mLc, wipeM, List.set_cons_zero, List.set_cons_succ, startM, List.map_cons, List.map_nil, List.cons_append, List.nil_append, List.length_cons, List.length_nil, List.replicate, List.getElem?_cons_zero, List.getElem?_cons_succ, Option.some.injEq, Nat.reduceSub, Nat.reduceAdd, true_and, exists_eq_left, exists_eq_left', e_ix_tup, e_ix_lst, e_ix_fz, e_ix_ref, e_lo_lst, e_lo_fz, e_lo_ref, e_so_lst, e_so_fz, e_so_tup, e_so_ref, e_hd_lst, e_hd_ref, e_add_int, e_add_str, e_add_tup, e_add_lst, e_sub_int, e_mul_int, e_mul_lst, e_mul_tup, e_mod_int, e_fdv_int, e_pow_int, e_lt_int, e_le_int, e_gt_int, e_ge_int, e_eq_int, e_ne_int, e_eq_str, e_ne_str, e_isN, e_notN, e_isN_non, e_isN_int, e_isN_tup, e_isN_str, e_isN_ref, e_isN_lst, e_abs, e_max2, e_min2, e_int_int, e_int_bl, e_str_int, e_str_str, e_str_non, e_len_str, e_len_tup, e_len_lst, e_len_fz, e_len_ref, e_list_tup, e_list_lst, e_list_fz, e_list_ref, e_tupl_tup, e_tupl_lst, e_tupl_ref, e_newT, e_newF, e_run_nm, e_run_tp, e_runs_nil, e_runs_cons, e_tru_bl, e_tru_int, e_tru_str, e_tru_lst, e_tru_tup, e_ty_str, e_ty_lst, e_ty_ref, e_append, e_insert, e_popAt, e_pop0, e_join, e_seqI_val, e_cut_str, e_cut_tup, e_cut_lst, e_cut_fz, e_cut_ref, mChain, mAugS, mStar, mEnumK, e_isi, e_isi2, e_all, e_intS_str, e_intS_int, e_inS, e_split, e_ix_str, e_iadd, e_tru_non]
      refine ⟨_, _, rfl, fat i hi', ?_⟩
      simp only [nf, decide_false, mSeq, mIfS, mAsg, mRet, mRetN, mDrop, mTest, mOp, mC, mVar, mSetI, mNext, mCB, mCons, mNil, mAndT, mOrT, mNotT, mTruT, mIf, mNeg, mOr, mAnd, mNot, mLst, mTup, mBM, mBM0, mPar, mCall, mCallK, mLstRg1, mTupRg1, mRng1, mRng2, mEnum, mZipT, mFor, mSl, mNoPart, mPart, mLc, wipeM, List.set_cons_zero, List.set_cons_succ, startM, List.map_cons, List.map_nil, List.cons_append, List.nil_append, List.length_cons, List.length_nil, List.replicate, List.getElem?_cons_zero, List.getElem?_cons_succ, Option.some.injEq, Nat.reduceSub, Nat.reduceAdd, true_and, exists_eq_left, exists_eq_left', e_ix_tup, e_ix_lst, e_ix_fz, e_ix_ref, e_lo_lst, e_lo_fz, e_lo_ref, e_so_lst, e_so_fz, e_so_tup, e_so_ref, e_hd_lst, e_hd_ref, e_add_int, e_add_str, e_add_tup, e_add_lst, e_sub_int, e_mul_int, e_mul_lst, e_mul_tup, e_mod_int, e_fdv_int, e_pow_int, e_lt_int, e_le_int, e_gt_int, e_ge_int, e_eq_int, e_ne_int, e_eq_str, e_ne_str, e_isN, e_notN, e_isN_non, e_isN_int, e_isN_tup, e_isN_str, e_isN_ref, e_isN_lst, e_abs, e_max2, e_min2, e_int_int, e_int_bl, e_str_int, e_str_str, e_str_non, e_len_str, e_len_tup, e_len_lst, e_len_fz, e_len_ref, e_list_tup, e_list_lst, e_list_fz, e_list_ref, e_tupl_tup, e_tupl_lst, e_tupl_ref, e_newT, e_newF, e_run_nm, e_run_tp, e_runs_nil, e_runs_cons, e_tru_bl, e_tru_int, e_tru_str, e_tru_lst, e_tru_tup, e_ty_str, e_ty_lst, e_ty_ref, e_append, e_insert, e_popAt, e_pop0, e_join, e_seqI_val, e_cut_str, e_cut_tup, e_cut_lst, e_cut_fz, e_cut_ref, mChain, mAugS, mStar, mEnumK, e_isi, e_isi2, e_all, e_intS_str, e_intS_int, e_inS, e_split, e_ix_str, e_iadd, e_tru_non]
      exact hN _ _ ⟨rfl, _, rfl⟩
    · rw [e]
      simp only [thaw, isN, mSeq, mIfS, mAsg, mRet, mRetN, mDrop, mTest, mOp, mC, mVar, mSetI, mNext, mCB, mCons, mNil, mAndT, mOrT, mNotT, mTruT, mIf, mNeg, mOr, mAnd, mNot, mLst, mTup, mBM, mBM0, mPar, mCall, mCallK, mLstRg1, mTupRg1, mRng1, mRng2, mEnum, mZipT, mFor, mSl, mNoPart, mPart, mLc, wipeM, List.set_cons_zero, List.set_cons_succ, startM, List.map_cons, List.map_nil, List.cons_append, List.nil_append, List.length_cons, List.length_nil, List.replicate, List.getElem?_cons_zero, List.getElem?_cons_succ, Option.some.injEq, Nat.reduceSub, Nat.reduceAdd, true_and, exists_eq_left, exists_eq_left', e_ix_tup, e_ix_lst, e_ix_fz, e_ix_ref, e_lo_lst, e_lo_fz, e_lo_ref, e_so_lst, e_so_fz, e_so_tup, e_so_ref, e_hd_lst, e_hd_ref, e_add_int, e_add_str, e_add_tup, e_add_lst, e_sub_int, e_mul_int, e_mul_lst, e_mul_tup, e_mod_int, e_fdv_int, e_pow_int, e_lt_int, e_le_int, e_gt_int, e_ge_int, e_eq_int, e_ne_int, e_eq_str, e_ne_str, e_isN, e_notN, e_isN_non, e_isN_int, e_isN_tup, e_isN_str, e_isN_ref, e_isN_lst, e_abs, e_max2, e_min2, e_int_int, e_int_bl, e_str_int, e_str_str, e_str_non, e_len_str, e_len_tup, e_len_lst, e_len_fz, e_len_ref, e_list_tup, e_list_lst, e_list_fz, e_list_ref, e_tupl_tup, e_tupl_lst, e_tupl_ref, e_newT, e_newF, e_run_nm, e_run_tp, e_runs_nil, e_runs_cons, e_tru_bl, e_tru_int, e_tru_str, e_tru_lst, e_tru_tup, e_ty_str, e_ty_lst, e_ty_ref, e_append, e_insert, e_popAt, e_pop0, e_join, e_seqI_val, e_cut_str, e_cut_tup, e_cut_lst, e_cut_fz, e_cut_ref, mChain, mAugS, mStar, mEnumK, e_isi, e_isi2, e_all, e_intS_str, e_intS_int, e_inS, e_split, e_ix_str, e_iadd, e_tru_non]
      exact hN _ _ ⟨rfl, _, rfl⟩
  rintro τ G3 ⟨rfl, v3, rfl⟩
  refine ⟨trivial, ?_⟩
  simp only [b_first_fault_12, mSeq, mIfS, mAsg, mRet, mRetN, mDrop, mTest, mOp, mC, mVar, mSetI, mNext, mCB, mCons, mNil, mAndT, mOrT, mNotT, mTruT, mIf, mNeg, mOr, mAnd, mNot, mLst, mTup, mBM, mBM0, mPar, mCall, mCallK, mLstRg1, mTupRg1, mRng1, mRng2, mEnum, mZipT, mFor, mSl, mNoPart, mPart, mLc, wipeM, List.set_cons_zero, List.set_cons_succ, startM, List.map_cons, List.map_nil, List.cons_append, List.nil_append, List.length_cons, List.length_nil, List.replicate, List.getElem?_cons_zero, List.getElem?_cons_succ, Option.some.injEq, Nat.reduceSub, Nat.reduceAdd, true_and, exists_eq_left, exists_eq_left', e_ix_tup, e_ix_lst, e_ix_fz, e_ix_ref, e_lo_lst, e_lo_fz, e_lo_ref, e_so_lst, e_so_fz, e_so_tup, e_so_ref, e_hd_lst, e_hd_ref, e_add_int, e_add_str, e_add_tup, e_add_lst, e_sub_int, e_mul_int, e_mul_lst, e_mul_tup, e_mod_int, e_fdv_int, e_pow_int, e_lt_int, e_le_int, e_gt_int, e_ge_int, e_eq_int, e_ne_int, e_eq_str, e_ne_str, e_isN, e_notN, e_isN_non, e_isN_int, e_isN_tup, e_isN_str, e_isN_ref, e_isN_lst, e_abs, e_max2, e_min2, e_int_int, e_int_bl, e_str_int, e_str_str, e_str_non, e_len_str, e_len_tup, e_len_lst, e_len_fz, e_len_ref, e_list_tup, e_list_lst, e_list_fz, e_list_ref, e_tupl_tup, e_tupl_lst, e_tupl_ref, e_newT, e_newF, e_run_nm, e_run_tp, e_runs_nil, e_runs_cons, e_tru_bl, e_tru_int, e_tru_str, e_tru_lst, e_tru_tup, e_ty_str, e_ty_lst, e_ty_ref, e_append, e_insert, e_popAt, e_pop0, e_join, e_seqI_val, e_cut_str, e_cut_tup, e_cut_lst, e_cut_fz, e_cut_ref, mChain, mAugS, mStar, mEnumK, e_isi, e_isi2, e_all, e_intS_str, e_intS_int, e_inS, e_split, e_ix_str, e_iadd, e_tru_non]
  refine ⟨hr62, loop_ind (fun i τ G2 => G2 = G3 ∧ ∃ v3, τ = [some (.ref a), some (.ref b), some (.int (slots.length : Nat)), v3, some (.lst (fs.map D.int))]) ?_ ?_ ⟨rfl, _, rfl⟩⟩
  · rintro i w τ G2 N hw ⟨rfl, v3, rfl⟩ hN
    obtain ⟨hi, rfl⟩ := rng_at hw
    have hi' : i < slots.length := by simpa using hi
    have hx : slots[i]? = some slots[i] := List.getElem?_eq_getElem hi'
    refine ⟨trivial, ?_⟩
    rw [show (0 : Int) + (i : Nat) = ((i : Nat) : Int) by omega]
    simp only [b_first_fault_13, mSeq, mIfS, mAsg, mRet, mRetN, mDrop, mTest, mOp, mC, mVar, mSetI, mNext, mCB, mCons, mNil, mAndT, mOrT, mNotT, mTruT, mIf, mNeg, mOr, mAnd, mNot, mLst, mTup, mBM, mBM0, mPar, mCall, mCallK, mLstRg1, mTupRg1, mRng1, mRng2, mEnum, mZipT, mFor, mSl, mNoPart, mPart, mLc, wipeM, List.set_cons_zero, List.set_cons_succ, startM, List.map_cons, List.map_nil, List.cons_append, List.nil_append, List.length_cons, List.length_nil, List.replicate, List.getElem?_cons_zero, List.getElem?_cons_succ, Option.some.injEq, Nat.reduceSub, Nat.reduceAdd, true_and, exists_eq_left, exists_eq_left', e_ix_tup, e_ix_lst, e_ix_fz, e_ix_ref, e_lo_lst, e_lo_fz, e_lo_ref, e_so_lst, e_so_fz, e_so_tup, e_so_ref, e_hd_lst, e_hd_ref, e_add_int, e_add_str, e_add_tup, e_add_lst, e_sub_int, e_mul_int, e_mul_lst, e_mul_tup, e_mod_int, e_fdv_int, e_pow_int, e_lt_int, e_le_int, e_gt_int, e_ge_int, e_eq_int, e_ne_int, e_eq_str, e_ne_str, e_isN, e_notN, e_isN_non, e_isN_int, e_isN_tup, e_isN_str, e_isN_ref, e_isN_lst, e_abs, e_max2, e_min2, e_int_int, e_int_bl, e_str_int, e_str_str, e_str_non, e_len_str, e_len_tup, e_len_lst, e_len_fz, e_len_ref, e_list_tup, e_list_lst, e_list_fz, e_list_ref, e_tupl_tup, e_tupl_lst, e_tupl_ref, e_newT, e_newF, e_run_nm, e_run_tp, e_runs_nil, e_runs_cons, e_tru_bl, e_tru_int, e_tru_str, e_tru_lst, e_tru_tup, e_ty_str, e_ty_lst, e_ty_ref, e_append, e_insert, e_popAt, e_pop0, e_join, e_seqI_val, e_cut_str, e_cut_tup, e_cut_lst, e_cut_fz, e_cut_ref, mChain, mAugS, mStar, mEnumK, e_isi, e_isi2, e_all, e_intS_str, e_intS_int, e_inS, e_split, e_ix_str, e_iadd, e_tru_non]
    refine ⟨_, _, ga, at_map hx, ?_⟩
    rcases hs _ (List.mem_of_getElem? hx) with e | ⟨row, e, hr⟩
    · rw [e]
      simp only [thaw, Bool.not_true, mSeq, mIfS, mAsg, mRet, mRetN, mDrop, mTest, mOp, mC, mVar, mSetI, mNext, mCB, mCons, mNil, mAndT, mOrT, mNotT, mTruT, mIf, mNeg, mOr, mAnd, mNot, mLst, mTup, mBM, mBM0, mPar, mCall, mCallK, mLstRg1, mTupRg1, mRng1, mRng2, mEnum, mZipT, mFor, mSl, mNoPart, mPart, mLc, wipeM, List.set_cons_zero, List.set_cons_succ, startM, List.map_cons, List.map_nil, List.cons_append, List.nil_append, List.length_cons, List.length_nil, List.replicate, List.getElem?_cons_zero, List.getElem?_cons_succ, Option.some.injEq, Nat.reduceSub, Nat.reduceAdd, true_and, exists_eq_left, exists_eq_left', e_ix_tup, e_ix_lst, e_ix_fz, e_ix_ref, e_lo_lst, e_lo_fz, e_lo_ref, e_so_lst, e_so_fz, e_so_tup, e_so_ref, e_hd_lst, e_hd_ref, e_add_int, e_add_str, e_add_tup, e_add_lst, e_sub_int, e_mul_int, e_mul_lst, e_mul_tup, e_mod_int, e_fdv_int, e_pow_int, e_lt_int, e_le_int, e_gt_int, e_ge_int, e_eq_int, e_ne_int, e_eq_str, e_ne_str, e_isN, e_notN, e_isN_non, e_isN_int, e_isN_tup, e_isN_str, e_isN_ref, e_isN_lst, e_abs, e_max2, e_min2, e_int_int, e_int_bl, e_str_int, e_str_str, e_str_non, e_len_str, e_len_tup, e_len_lst, e_len_fz, e_len_ref, e_list_tup, e_list_lst, e_list_fz, e_list_ref, e_tupl_tup, e_tupl_lst, e_tupl_ref, e_newT, e_newF, e_run_nm, e_run_tp, e_runs_nil, e_runs_cons, e_tru_bl, e_tru_int, e_tru_str, e_tru_lst, e_tru_tup, e_ty_str, e_ty_lst, e_ty_ref, e_append, e_insert, e_popAt, e_pop0, e_join, e_seqI_val, e_cut_str, e_cut_tup, e_cut_lst, e_cut_fz, e_cut_ref, mChain, mAugS, mStar, mEnumK, e_isi, e_isi2, e_all, e_intS_str, e_intS_int, e_inS, e_split, e_ix_str, e_iadd, e_tru_non]
      exact hN _ _ ⟨rfl, _, rfl⟩
    · have hf := (fc i (by omega)).mpr ((hc i _ hx).2 (by rw [e]; exact fun z => nomatch z))
      rw [e]
      simp only [thaw, isN, Bool.not_false, mSeq, mIfS, mAsg, mRet, mRetN, mDrop, mTest, mOp, mC, mVar, mSetI, mNext, mCB, mCons, mNil, mAndT, mOrT, mNotT, mTruT, mIf, mNeg, mOr, mAnd, mNot, mLst, mTup, mBM, mBM0, mPar, mCall, mCallK, mLstRg1, mTupRg1, mRng1, mRng2, mEnum, mZipT, mFor, mSl, mNoPart, mPart, mLc, wipeM, List.set_cons_zero, List.set_cons_succ, startM, List.map_cons, List.map_nil, List.cons_append, List.nil_append, List.length_cons, List.length_nil, List.replicate, List.getElem?_cons_zero, List.getElem?_cons_succ, Option.some.injEq, Nat.reduceSub, Nat.reduceAdd, true_and, exists_eq_left, exists_eq_left', e_ix_tup, e_ix_lst, e_ix_fz, e_ix_ref, e_lo_lst, e_lo_fz, e_lo_ref, e_so_lst, e_so_fz, e_so_tup, e_so_ref, e_hd_lst, e_hd_ref, e_add_int, e_add_str, e_add_tup, e_add_lst, e_sub_int, e_mul_int, e_mul_lst, e_mul_tup, e_mod_int, e_fdv_int, e_pow_int, e_lt_int, e_le_int, e_gt_int, e_ge_int, e_eq_int, e_ne_int, e_eq_str, e_ne_str, e_isN, e_notN, e_isN_non, e_isN_int, e_isN_tup, e_isN_str, e_isN_ref, e_isN_lst, e_abs, e_max2, e_min2, e_int_int, e_int_bl, e_str_int, e_str_str, e_str_non, e_len_str, e_len_tup, e_len_lst, e_len_fz, e_len_ref, e_list_tup, e_list_lst, e_list_fz, e_list_ref, e_tupl_tup, e_tupl_lst, e_tupl_ref, e_newT, e_newF, e_run_nm, e_run_tp, e_runs_nil, e_runs_cons, e_tru_bl, e_tru_int, e_tru_str, e_tru_lst, e_tru_tup, e_ty_str, e_ty_lst, e_ty_ref, e_append, e_insert, e_popAt, e_pop0, e_join, e_seqI_val, e_cut_str, e_cut_tup, e_cut_lst, e_cut_fz, e_cut_ref, mChain, mAugS, mStar, mEnumK, e_isi, e_isi2, e_all, e_intS_str, e_intS_int, e_inS, e_split, e_ix_str, e_iadd, e_tru_non]
      refine ⟨_, _, rfl, fat i hi', ?_⟩
      have nz : ¬ fs.getD i 0 = 0 := by omega
      simp only [nz, decide_false, mSeq, mIfS, mAsg, mRet, mRetN, mDrop, mTest, mOp, mC, mVar, mSetI, mNext, mCB, mCons, mNil, mAndT, mOrT, mNotT, mTruT, mIf, mNeg, mOr, mAnd, mNot, mLst, mTup, mBM, mBM0, mPar, mCall, mCallK, mLstRg1, mTupRg1, mRng1, mRng2, mEnum, mZipT, mFor, mSl, mNoPart, mPart, mLc, wipeM, List.set_cons_zero, List.set_cons_succ, startM, List.map_cons, List.map_nil, List.cons_append, List.nil_append, List.length_cons, List.length_nil, List.replicate, List.getElem?_cons_zero, List.getElem?_cons_succ, Option.some.injEq, Nat.reduceSub, Nat.reduceAdd, true_and, exists_eq_left, exists_eq_left', e_ix_tup, e_ix_lst, e_ix_fz, e_ix_ref, e_lo_lst, e_lo_fz, e_lo_ref, e_so_lst, e_so_fz, e_so_tup, e_so_ref, e_hd_lst, e_hd_ref, e_add_int, e_add_str, e_add_tup, e_add_lst, e_sub_int, e_mul_int, e_mul_lst, e_mul_tup, e_mod_int, e_fdv_int, e_pow_int, e_lt_int, e_le_int, e_gt_int, e_ge_int, e_eq_int, e_ne_int, e_eq_str, e_ne_str, e_isN, e_notN, e_isN_non, e_isN_int, e_isN_tup, e_isN_str, e_isN_ref, e_isN_lst, e_abs, e_max2, e_min2, e_int_int, e_int_bl, e_str_int, e_str_str, e_str_non, e_len_str, e_len_tup, e_len_lst, e_len_fz, e_len_ref, e_list_tup, e_list_lst, e_list_fz, e_list_ref, e_tupl_tup, e_tupl_lst, e_tupl_ref, e_newT, e_newF, e_run_nm, e_run_tp, e_runs_nil, e_runs_cons, e_tru_bl, e_tru_int, e_tru_str, e_tru_lst, e_tru_tup, e_ty_str, e_ty_lst, e_ty_ref, e_append, e_insert, e_popAt, e_pop0, e_join, e_seqI_val, e_cut_str, e_cut_tup, e_cut_lst, e_cut_fz, e_cut_ref, mChain, mAugS, mStar, mEnumK, e_isi, e_isi2, e_all, e_intS_str, e_intS_int, e_inS, e_split, e_ix_str, e_iadd, e_tru_non]
      exact hN _ _ ⟨rfl, _, rfl⟩
  rintro τ G2 ⟨rfl, v3, rfl⟩
  refine ⟨trivial, ?_⟩
  simp only [b_first_fault_15, mSeq, mIfS, mAsg, mRet, mRetN, mDrop, mTest, mOp, mC, mVar, mSetI, mNext, mCB, mCons, mNil, mAndT, mOrT, mNotT, mTruT, mIf, mNeg, mOr, mAnd, mNot, mLst, mTup, mBM, mBM0, mPar, mCall, mCallK, mLstRg1, mTupRg1, mRng1, mRng2, mEnum, mZipT, mFor, mSl, mNoPart, mPart, mLc, wipeM, List.set_cons_zero, List.set_cons_succ, startM, List.map_cons, List.map_nil, List.cons_append, List.nil_append, List.length_cons, List.length_nil, List.replicate, List.getElem?_cons_zero, List.getElem?_cons_succ, Option.some.injEq, Nat.reduceSub, Nat.reduceAdd, true_and, exists_eq_left, exists_eq_left', e_ix_tup, e_ix_lst, e_ix_fz, e_ix_ref, e_lo_lst, e_lo_fz, e_lo_ref, e_so_lst, e_so_fz, e_so_tup, e_so_ref, e_hd_lst, e_hd_ref, e_add_int, e_add_str, e_add_tup, e_add_lst, e_sub_int, e_mul_int, e_mul_lst, e_mul_tup, e_mod_int, e_fdv_int, e_pow_int, e_lt_int, e_le_int, e_gt_int, e_ge_int, e_eq_int, e_ne_int, e_eq_str, e_ne_str, e_isN, e_notN, e_isN_non, e_isN_int, e_isN_tup, e_isN_str, e_isN_ref, e_isN_lst, e_abs, e_max2, e_min2, e_int_int, e_int_bl, e_str_int, e_str_str, e_str_non, e_len_str, e_len_tup, e_len_lst, e_len_fz, e_len_ref, e_list_tup, e_list_lst, e_list_fz, e_list_ref, e_tupl_tup, e_tupl_lst, e_tupl_ref, e_newT, e_newF, e_run_nm, e_run_tp, e_runs_nil, e_runs_cons, e_tru_bl, e_tru_int, e_tru_str, e_tru_lst, e_tru_tup, e_ty_str, e_ty_lst, e_ty_ref, e_append, e_insert, e_popAt, e_pop0, e_join, e_seqI_val, e_cut_str, e_cut_tup, e_cut_lst, e_cut_fz, e_cut_ref, mChain, mAugS, mStar, mEnumK, e_isi, e_isi2, e_all, e_intS_str, e_intS_int, e_inS, e_split, e_ix_str, e_iadd, e_tru_non]
  exact less_here hq
theorem thaw_back {slots : List D} {n : Nat} (h : ∀ x ∈ slots, SlotOk n x) : (slots.map thaw).map (fun x => match x with | .lst row => D.tup row | x => x) = slots := by
  rw [List.map_map]
  conv => rhs; rw [← List.map_id slots]
  refine List.map_congr_left fun x hx => ?_
  rcases h x hx with rfl | ⟨row, rfl, _⟩ <;> rfl
theorem law_make_heap (x0 x1 : D) (G : Gp) (q : MK) (h : p_make_heap x0 x1 G q) : b_make_heap { nx := fun _ G' => less q .non G', rt := less q } (startM ["slots", "outside", "fault", "row"] [x0, x1]) G := by
  obtain ⟨slots, outs, a, b, rfl, rfl, ga, gb, hh, hc, hq⟩ := h
  have hl := hh.1
  have h40 := hh.2.1
  simp only [b_make_heap, e_sp_have_shape, mSeq, mIfS, mAsg, mRet, mRetN, mDrop, mTest, mOp, mC, mVar, mSetI, mNext, mCB, mCons, mNil, mAndT, mOrT, mNotT, mTruT, mIf, mNeg, mOr, mAnd, mNot, mLst, mTup, mBM, mBM0, mPar, mCall, mCallK, mLstRg1, mTupRg1, mRng1, mRng2, mEnum, mZipT, mFor, mSl, mNoPart, mPart, mLc, wipeM, List.set_cons_zero, List.set_cons_succ, startM, List.map_cons, List.map_nil, List.cons_append, List.nil_append, List.length_cons, List.length_nil, List.replicate, List.getElem?_cons_zero, List.getElem?_cons_succ, Option.some.injEq, Nat.reduceSub, Nat.reduceAdd, true_and, exists_eq_left, exists_eq_left', e_ix_tup, e_ix_lst, e_ix_fz, e_ix_ref, e_lo_lst, e_lo_fz, e_lo_ref, e_so_lst, e_so_fz, e_so_tup, e_so_ref, e_hd_lst, e_hd_ref, e_add_int, e_add_str, e_add_tup, e_add_lst, e_sub_int, e_mul_int, e_mul_lst, e_mul_tup, e_mod_int, e_fdv_int, e_pow_int, e_lt_int, e_le_int, e_gt_int, e_ge_int, e_eq_int, e_ne_int, e_eq_str, e_ne_str, e_isN, e_notN, e_isN_non, e_isN_int, e_isN_tup, e_isN_str, e_isN_ref, e_isN_lst, e_abs, e_max2, e_min2, e_int_int, e_int_bl, e_str_int, e_str_str, e_str_non, e_len_str, e_len_tup, e_len_lst, e_len_fz, e_len_ref, e_list_tup, e_list_lst, e_list_fz, e_list_ref, e_tupl_tup, e_tupl_lst, e_tupl_ref, e_newT, e_newF, e_run_nm, e_run_tp, e_runs_nil, e_runs_cons, e_tru_bl, e_tru_int, e_tru_str, e_tru_lst, e_tru_tup, e_ty_str, e_ty_lst, e_ty_ref, e_append, e_insert, e_popAt, e_pop0, e_join, e_seqI_val, e_cut_str, e_cut_tup, e_cut_lst, e_cut_fz, e_cut_ref, mChain, mAugS, mStar, mEnumK, e_isi, e_isi2, e_all, e_intS_str, e_intS_int, e_inS, e_split, e_ix_str, e_iadd, e_tru_non]
  refine ⟨_, outs, a, b, rfl, rfl, ga, gb, by rw [List.length_map]; exact hl, by rw [List.length_map]; exact h40, ?_⟩
  simp only [Bool.not_true, b_make_heap_3, e_sp_first_fault, mSeq, mIfS, mAsg, mRet, mRetN, mDrop, mTest, mOp, mC, mVar, mSetI, mNext, mCB, mCons, mNil, mAndT, mOrT, mNotT, mTruT, mIf, mNeg, mOr, mAnd, mNot, mLst, mTup, mBM, mBM0, mPar, mCall, mCallK, mLstRg1, mTupRg1, mRng1, mRng2, mEnum, mZipT, mFor, mSl, mNoPart, mPart, mLc, wipeM, List.set_cons_zero, List.set_cons_succ, startM, List.map_cons, List.map_nil, List.cons_append, List.nil_append, List.length_cons, List.length_nil, List.replicate, List.getElem?_cons_zero, List.getElem?_cons_succ, Option.some.injEq, Nat.reduceSub, Nat.reduceAdd, true_and, exists_eq_left, exists_eq_left', e_ix_tup, e_ix_lst, e_ix_fz, e_ix_ref, e_lo_lst, e_lo_fz, e_lo_ref, e_so_lst, e_so_fz, e_so_tup, e_so_ref, e_hd_lst, e_hd_ref, e_add_int, e_add_str, e_add_tup, e_add_lst, e_sub_int, e_mul_int, e_mul_lst, e_mul_tup, e_mod_int, e_fdv_int, e_pow_int, e_lt_int, e_le_int, e_gt_int, e_ge_int, e_eq_int, e_ne_int, e_eq_str, e_ne_str, e_isN, e_notN, e_isN_non, e_isN_int, e_isN_tup, e_isN_str, e_isN_ref, e_isN_lst, e_abs, e_max2, e_min2, e_int_int, e_int_bl, e_str_int, e_str_str, e_str_non, e_len_str, e_len_tup, e_len_lst, e_len_fz, e_len_ref, e_list_tup, e_list_lst, e_list_fz, e_list_ref, e_tupl_tup, e_tupl_lst, e_tupl_ref, e_newT, e_newF, e_run_nm, e_run_tp, e_runs_nil, e_runs_cons, e_tru_bl, e_tru_int, e_tru_str, e_tru_lst, e_tru_tup, e_ty_str, e_ty_lst, e_ty_ref, e_append, e_insert, e_popAt, e_pop0, e_join, e_seqI_val, e_cut_str, e_cut_tup, e_cut_lst, e_cut_fz, e_cut_ref, mChain, mAugS, mStar, mEnumK, e_isi, e_isi2, e_all, e_intS_str, e_intS_int, e_inS, e_split, e_ix_str, e_iadd, e_tru_non]
  refine ⟨slots, outs, a, b, rfl, rfl, ga, gb, hh, hc, ?_⟩
  simp only [Bool.not_true, b_make_heap_4, b_make_heap_6, e_seqI_val, mSeq, mIfS, mAsg, mRet, mRetN, mDrop, mTest, mOp, mC, mVar, mSetI, mNext, mCB, mCons, mNil, mAndT, mOrT, mNotT, mTruT, mIf, mNeg, mOr, mAnd, mNot, mLst, mTup, mBM, mBM0, mPar, mCall, mCallK, mLstRg1, mTupRg1, mRng1, mRng2, mEnum, mZipT, mFor, mSl, mNoPart, mPart, mLc, wipeM, List.set_cons_zero, List.set_cons_succ, startM, List.map_cons, List.map_nil, List.cons_append, List.nil_append, List.length_cons, List.length_nil, List.replicate, List.getElem?_cons_zero, List.getElem?_cons_succ, Option.some.injEq, Nat.reduceSub, Nat.reduceAdd, true_and, exists_eq_left, exists_eq_left', e_ix_tup, e_ix_lst, e_ix_fz, e_ix_ref, e_lo_lst, e_lo_fz, e_lo_ref, e_so_lst, e_so_fz, e_so_tup, e_so_ref, e_hd_lst, e_hd_ref, e_add_int, e_add_str, e_add_tup, e_add_lst, e_sub_int, e_mul_int, e_mul_lst, e_mul_tup, e_mod_int, e_fdv_int, e_pow_int, e_lt_int, e_le_int, e_gt_int, e_ge_int, e_eq_int, e_ne_int, e_eq_str, e_ne_str, e_isN, e_notN, e_isN_non, e_isN_int, e_isN_tup, e_isN_str, e_isN_ref, e_isN_lst, e_abs, e_max2, e_min2, e_int_int, e_int_bl, e_str_int, e_str_str, e_str_non, e_len_str, e_len_tup, e_len_lst, e_len_fz, e_len_ref, e_list_tup, e_list_lst, e_list_fz, e_list_ref, e_tupl_tup, e_tupl_lst, e_tupl_ref, e_newT, e_newF, e_run_nm, e_run_tp, e_runs_nil, e_runs_cons, e_tru_bl, e_tru_int, e_tru_str, e_tru_lst, e_tru_tup, e_ty_str, e_ty_lst, e_ty_ref, e_append, e_insert, e_popAt, e_pop0, e_join, e_seqI_val, e_cut_str, e_cut_tup, e_cut_lst, e_cut_fz, e_cut_ref, mChain, mAugS, mStar, mEnumK, e_isi, e_isi2, e_all, e_intS_str, e_intS_int, e_inS, e_split, e_ix_str, e_iadd, e_tru_non]
  refine ⟨_, ga, comp_map (fun x => match x with | .lst row => D.tup row | x => x) (by rw [List.length_map]; have := sizeLine_eq; omega) ga (fun w r hw hr => ?_) ?_⟩
  · obtain ⟨x, hx, rfl⟩ := List.mem_map.mp hw
    rcases hh.2.2.1 x hx with rfl | ⟨row, rfl, _⟩
    · simp only [thaw, mSeq, mIfS, mAsg, mRet, mRetN, mDrop, mTest, mOp, mC, mVar, mSetI, mNext, mCB, mCons, mNil, mAndT, mOrT, mNotT, mTruT, mIf, mNeg, mOr, mAnd, mNot, mLst, mTup, mBM, mBM0, mPar, mCall, mCallK, mLstRg1, mTupRg1, mRng1, mRng2, mEnum, mZipT, mFor, mSl, mNoPart, mPart, mLc, wipeM, List.set_cons_zero, List.set_cons_succ, startM, List.map_cons, List.map_nil, List.cons_append, List.nil_append, List.length_cons, List.length_nil, List.replicate, List.getElem?_cons_zero, List.getElem?_cons_succ, Option.some.injEq, Nat.reduceSub, Nat.reduceAdd, true_and, exists_eq_left, exists_eq_left', e_ix_tup, e_ix_lst, e_ix_fz, e_ix_ref, e_lo_lst, e_lo_fz, e_lo_ref, e_so_lst, e_so_fz, e_so_tup, e_so_ref, e_hd_lst, e_hd_ref, e_add_int, e_add_str, e_add_tup, e_add_lst, e_sub_int, e_mul_int, e_mul_lst, e_mul_tup, e_mod_int, e_fdv_int, e_pow_int, e_lt_int, e_le_int, e_gt_int, e_ge_int, e_eq_int, e_ne_int, e_eq_str, e_ne_str, e_isN, e_notN, e_isN_non, e_isN_int, e_isN_tup, e_isN_str, e_isN_ref, e_isN_lst, e_abs, e_max2, e_min2, e_int_int, e_int_bl, e_str_int, e_str_str, e_str_non, e_len_str, e_len_tup, e_len_lst, e_len_fz, e_len_ref, e_list_tup, e_list_lst, e_list_fz, e_list_ref, e_tupl_tup, e_tupl_lst, e_tupl_ref, e_newT, e_newF, e_run_nm, e_run_tp, e_runs_nil, e_runs_cons, e_tru_bl, e_tru_int, e_tru_str, e_tru_lst, e_tru_tup, e_ty_str, e_ty_lst, e_ty_ref, e_append, e_insert, e_popAt, e_pop0, e_join, e_seqI_val, e_cut_str, e_cut_tup, e_cut_lst, e_cut_fz, e_cut_ref, mChain, mAugS, mStar, mEnumK, e_isi, e_isi2, e_all, e_intS_str, e_intS_int, e_inS, e_split, e_ix_str, e_iadd, e_tru_non] at hr ⊢
      exact hr
    · simp only [thaw, isN, mSeq, mIfS, mAsg, mRet, mRetN, mDrop, mTest, mOp, mC, mVar, mSetI, mNext, mCB, mCons, mNil, mAndT, mOrT, mNotT, mTruT, mIf, mNeg, mOr, mAnd, mNot, mLst, mTup, mBM, mBM0, mPar, mCall, mCallK, mLstRg1, mTupRg1, mRng1, mRng2, mEnum, mZipT, mFor, mSl, mNoPart, mPart, mLc, wipeM, List.set_cons_zero, List.set_cons_succ, startM, List.map_cons, List.map_nil, List.cons_append, List.nil_append, List.length_cons, List.length_nil, List.replicate, List.getElem?_cons_zero, List.getElem?_cons_succ, Option.some.injEq, Nat.reduceSub, Nat.reduceAdd, true_and, exists_eq_left, exists_eq_left', e_ix_tup, e_ix_lst, e_ix_fz, e_ix_ref, e_lo_lst, e_lo_fz, e_lo_ref, e_so_lst, e_so_fz, e_so_tup, e_so_ref, e_hd_lst, e_hd_ref, e_add_int, e_add_str, e_add_tup, e_add_lst, e_sub_int, e_mul_int, e_mul_lst, e_mul_tup, e_mod_int, e_fdv_int, e_pow_int, e_lt_int, e_le_int, e_gt_int, e_ge_int, e_eq_int, e_ne_int, e_eq_str, e_ne_str, e_isN, e_notN, e_isN_non, e_isN_int, e_isN_tup, e_isN_str, e_isN_ref, e_isN_lst, e_abs, e_max2, e_min2, e_int_int, e_int_bl, e_str_int, e_str_str, e_str_non, e_len_str, e_len_tup, e_len_lst, e_len_fz, e_len_ref, e_list_tup, e_list_lst, e_list_fz, e_list_ref, e_tupl_tup, e_tupl_lst, e_tupl_ref, e_newT, e_newF, e_run_nm, e_run_tp, e_runs_nil, e_runs_cons, e_tru_bl, e_tru_int, e_tru_str, e_tru_lst, e_tru_tup, e_ty_str, e_ty_lst, e_ty_ref, e_append, e_insert, e_popAt, e_pop0, e_join, e_seqI_val, e_cut_str, e_cut_tup, e_cut_lst, e_cut_fz, e_cut_ref, mChain, mAugS, mStar, mEnumK, e_isi, e_isi2, e_all, e_intS_str, e_intS_int, e_inS, e_split, e_ix_str, e_iadd, e_tru_non] at hr ⊢
      exact hr
  · rw [thaw_back hh.2.2.1]
    exact ⟨_, gb, by decide, less_here hq⟩
end Q82

set_option maxRecDepth 100000
namespace Q82
open PySem PySem.Spec L2 ML
open PyProof.Rows hiding St
/-! ### words -/
def DG : List Nat := ("0123456789" : Str).cps.toList
def okW (i : Nat) : Bool :=
  let z := Str.ofString (toString ((i : Nat) : Int))
  decide (1 ≤ z.length) && decide (z.length ≤ 2) && z.cps.toList.all (fun c => decide (c ∈ DG)) && (match z.cps.toList with
    | c :: _ => !decide ((⟨#[c]⟩ : Str) = "0") || decide (z = "0")
    | [] => false) && (intText? z == some (i : Int)) && (decide (9 < i) || (decide (z ≠ "free") && decide (z.length = 1)))
theorem okW_all : (List.range 40).all okW = true := by decide +kernel
structure Word (i : Nat) (z : Str) : Prop where
  l1 : 1 ≤ z.length
  l2 : z.length ≤ 2
  dg : z.cps.toList.all (fun c => decide (c ∈ DG)) = true
  hd : ∃ c r, z.cps.toList = c :: r ∧ ((⟨#[c]⟩ : Str) = "0" → z = "0")
  int : intText? z = some (i : Int)
  small : i ≤ 9 → z ≠ "free" ∧ z.length = 1
theorem word_of {i : Nat} (h : i < 40) : Word i (toString ((i : Nat) : Int)) := by
  have h1 := List.all_eq_true.mp okW_all i (List.mem_range.mpr h)
  show Word i (Str.ofString (toString ((i : Nat) : Int)))
  unfold okW at h1
  generalize Str.ofString (toString ((i : Nat) : Int)) = z at h1 ⊢
  simp only [Bool.and_eq_true, decide_eq_true_eq] at h1
  obtain ⟨⟨⟨⟨⟨a, b⟩, c⟩, d⟩, e⟩, f⟩ := h1
  refine ⟨a, b, c, ?_, by simpa using e, fun h9 => ?_⟩
  · cases hz : z.cps.toList with
    | nil => rw [hz] at d; cases d
    | cons x r =>
      rw [hz] at d
      refine ⟨x, r, rfl, fun z0 => ?_⟩
      simp only [z0, decide_true, Bool.not_true, Bool.false_or, decide_eq_true_eq] at d
      exact d
  · simp only [Bool.or_eq_true, Bool.and_eq_true, decide_eq_true_eq] at f
    rcases f with f | f
    · omega
    · exact f
theorem signs_dg (z : Str) : blsOf ((z.cps.toList.map fun c => D.str ⟨#[c]⟩).map fun w => match w with | .str a => D.bl (decide (a.cps.toList.headD 0 ∈ DG)) | _ => .non) = some (z.cps.toList.map fun c => decide (c ∈ DG)) := by
  rw [List.map_map, ← blsOf_map, List.map_map]
  rfl
theorem law_number_in (x0 x1 : D) (G : Gp) (q : MK) (h : p_number_in x0 x1 G q) : b_number_in { nx := fun _ G' => less q .non G', rt := less q } (startM ["word", "bound", "sign"] [x0, x1]) G := by
  obtain ⟨n, w, hw, hn, rfl, rfl, hq⟩ := h
  have hz : (cell w).length ≤ 2 ∧ 1 ≤ (cell w).length := by
    rcases hw with rfl | ⟨i, rfl, i0, i1⟩
    · show (("-" : Str)).length ≤ 2 ∧ 1 ≤ (("-" : Str)).length
      decide
    · obtain ⟨u, rfl⟩ : ∃ u : Nat, i = (u : Nat) := ⟨i.toNat, by omega⟩
      have W := word_of (i := u) (by omega)
      exact ⟨W.l2, W.l1⟩
  have hcl : (cell w).cps.toList.length = (cell w).length := by simp [Str.length]
  have hs := sizeLine_eq
  simp only [b_number_in, e_seqI_val, mSeq, mIfS, mAsg, mRet, mRetN, mDrop, mTest, mOp, mC, mVar, mSetI, mNext, mCB, mCons, mNil, mAndT, mOrT, mNotT, mTruT, mIf, mNeg, mOr, mAnd, mNot, mLst, mTup, mBM, mBM0, mPar, mCall, mCallK, mLstRg1, mTupRg1, mRng1, mRng2, mEnum, mZipT, mFor, mSl, mNoPart, mPart, mLc, wipeM, List.set_cons_zero, List.set_cons_succ, startM, List.map_cons, List.map_nil, List.cons_append, List.nil_append, List.length_cons, List.length_nil, List.replicate, List.getElem?_cons_zero, List.getElem?_cons_succ, Option.some.injEq, Nat.reduceSub, Nat.reduceAdd, true_and, exists_eq_left, exists_eq_left', e_ix_tup, e_ix_lst, e_ix_fz, e_ix_ref, e_lo_lst, e_lo_fz, e_lo_ref, e_so_lst, e_so_fz, e_so_tup, e_so_ref, e_hd_lst, e_hd_ref, e_add_int, e_add_str, e_add_tup, e_add_lst, e_sub_int, e_mul_int, e_mul_lst, e_mul_tup, e_mod_int, e_fdv_int, e_pow_int, e_lt_int, e_le_int, e_gt_int, e_ge_int, e_eq_int, e_ne_int, e_eq_str, e_ne_str, e_isN, e_notN, e_isN_non, e_isN_int, e_isN_tup, e_isN_str, e_isN_ref, e_isN_lst, e_abs, e_max2, e_min2, e_int_int, e_int_bl, e_str_int, e_str_str, e_str_non, e_len_str, e_len_tup, e_len_lst, e_len_fz, e_len_ref, e_list_tup, e_list_lst, e_list_fz, e_list_ref, e_tupl_tup, e_tupl_lst, e_tupl_ref, e_newT, e_newF, e_run_nm, e_run_tp, e_runs_nil, e_runs_cons, e_tru_bl, e_tru_int, e_tru_str, e_tru_lst, e_tru_tup, e_ty_str, e_ty_lst, e_ty_ref, e_append, e_insert, e_popAt, e_pop0, e_join, e_seqI_val, e_cut_str, e_cut_tup, e_cut_lst, e_cut_fz, e_cut_ref, mChain, mAugS, mStar, mEnumK, e_isi, e_isi2, e_all, e_intS_str, e_intS_int, e_inS, e_split, e_ix_str, e_iadd, e_tru_non]
  refine ⟨by omega, ?_⟩
  have a1 : (1 : Int) ≤ ((cell w).length : Nat) := by omega
  have a2 : (((cell w).length : Nat) : Int) ≤ 9 := by omega
  simp only [a1, a2, decide_true, Bool.not_true, mSeq, mIfS, mAsg, mRet, mRetN, mDrop, mTest, mOp, mC, mVar, mSetI, mNext, mCB, mCons, mNil, mAndT, mOrT, mNotT, mTruT, mIf, mNeg, mOr, mAnd, mNot, mLst, mTup, mBM, mBM0, mPar, mCall, mCallK, mLstRg1, mTupRg1, mRng1, mRng2, mEnum, mZipT, mFor, mSl, mNoPart, mPart, mLc, wipeM, List.set_cons_zero, List.set_cons_succ, startM, List.map_cons, List.map_nil, List.cons_append, List.nil_append, List.length_cons, List.length_nil, List.replicate, List.getElem?_cons_zero, List.getElem?_cons_succ, Option.some.injEq, Nat.reduceSub, Nat.reduceAdd, true_and, exists_eq_left, exists_eq_left', e_ix_tup, e_ix_lst, e_ix_fz, e_ix_ref, e_lo_lst, e_lo_fz, e_lo_ref, e_so_lst, e_so_fz, e_so_tup, e_so_ref, e_hd_lst, e_hd_ref, e_add_int, e_add_str, e_add_tup, e_add_lst, e_sub_int, e_mul_int, e_mul_lst, e_mul_tup, e_mod_int, e_fdv_int, e_pow_int, e_lt_int, e_le_int, e_gt_int, e_ge_int, e_eq_int, e_ne_int, e_eq_str, e_ne_str, e_isN, e_notN, e_isN_non, e_isN_int, e_isN_tup, e_isN_str, e_isN_ref, e_isN_lst, e_abs, e_max2, e_min2, e_int_int, e_int_bl, e_str_int, e_str_str, e_str_non, e_len_str, e_len_tup, e_len_lst, e_len_fz, e_len_ref, e_list_tup, e_list_lst, e_list_fz, e_list_ref, e_tupl_tup, e_tupl_lst, e_tupl_ref, e_newT, e_newF, e_run_nm, e_run_tp, e_runs_nil, e_runs_cons, e_tru_bl, e_tru_int, e_tru_str, e_tru_lst, e_tru_tup, e_ty_str, e_ty_lst, e_ty_ref, e_append, e_insert, e_popAt, e_pop0, e_join, e_seqI_val, e_cut_str, e_cut_tup, e_cut_lst, e_cut_fz, e_cut_ref, mChain, mAugS, mStar, mEnumK, e_isi, e_isi2, e_all, e_intS_str, e_intS_int, e_inS, e_split, e_ix_str, e_iadd, e_tru_non]
  refine comp_map (fun w => match w with | .str a => D.bl (decide (a.cps.toList.headD 0 ∈ DG)) | _ => .non) (by rw [List.length_map]; omega) trivial (fun x r hx hr => ?_) ?_
  · obtain ⟨c, _, rfl⟩ := List.mem_map.mp hx
    simp only [mSeq, mIfS, mAsg, mRet, mRetN, mDrop, mTest, mOp, mC, mVar, mSetI, mNext, mCB, mCons, mNil, mAndT, mOrT, mNotT, mTruT, mIf, mNeg, mOr, mAnd, mNot, mLst, mTup, mBM, mBM0, mPar, mCall, mCallK, mLstRg1, mTupRg1, mRng1, mRng2, mEnum, mZipT, mFor, mSl, mNoPart, mPart, mLc, wipeM, List.set_cons_zero, List.set_cons_succ, startM, List.map_cons, List.map_nil, List.cons_append, List.nil_append, List.length_cons, List.length_nil, List.replicate, List.getElem?_cons_zero, List.getElem?_cons_succ, Option.some.injEq, Nat.reduceSub, Nat.reduceAdd, true_and, exists_eq_left, exists_eq_left', e_ix_tup, e_ix_lst, e_ix_fz, e_ix_ref, e_lo_lst, e_lo_fz, e_lo_ref, e_so_lst, e_so_fz, e_so_tup, e_so_ref, e_hd_lst, e_hd_ref, e_add_int, e_add_str, e_add_tup, e_add_lst, e_sub_int, e_mul_int, e_mul_lst, e_mul_tup, e_mod_int, e_fdv_int, e_pow_int, e_lt_int, e_le_int, e_gt_int, e_ge_int, e_eq_int, e_ne_int, e_eq_str, e_ne_str, e_isN, e_notN, e_isN_non, e_isN_int, e_isN_tup, e_isN_str, e_isN_ref, e_isN_lst, e_abs, e_max2, e_min2, e_int_int, e_int_bl, e_str_int, e_str_str, e_str_non, e_len_str, e_len_tup, e_len_lst, e_len_fz, e_len_ref, e_list_tup, e_list_lst, e_list_fz, e_list_ref, e_tupl_tup, e_tupl_lst, e_tupl_ref, e_newT, e_newF, e_run_nm, e_run_tp, e_runs_nil, e_runs_cons, e_tru_bl, e_tru_int, e_tru_str, e_tru_lst, e_tru_tup, e_ty_str, e_ty_lst, e_ty_ref, e_append, e_insert, e_popAt, e_pop0, e_join, e_seqI_val, e_cut_str, e_cut_tup, e_cut_lst, e_cut_fz, e_cut_ref, mChain, mAugS, mStar, mEnumK, e_isi, e_isi2, e_all, e_intS_str, e_intS_int, e_inS, e_split, e_ix_str, e_iadd, e_tru_non]
    exact ⟨c, rfl, hr⟩
  refine ⟨_, _, rfl, signs_dg _, ?_⟩
  rcases hw with rfl | ⟨i, rfl, i0, i1⟩
  · have e : ((cell D.non).cps.toList.map fun c => decide (c ∈ DG)).all id = false := by
      show ((("-" : Str)).cps.toList.map fun c => decide (c ∈ DG)).all id = false
      decide +kernel
    rw [e]
    simp only [Bool.not_false, b_number_in_2, mSeq, mIfS, mAsg, mRet, mRetN, mDrop, mTest, mOp, mC, mVar, mSetI, mNext, mCB, mCons, mNil, mAndT, mOrT, mNotT, mTruT, mIf, mNeg, mOr, mAnd, mNot, mLst, mTup, mBM, mBM0, mPar, mCall, mCallK, mLstRg1, mTupRg1, mRng1, mRng2, mEnum, mZipT, mFor, mSl, mNoPart, mPart, mLc, wipeM, List.set_cons_zero, List.set_cons_succ, startM, List.map_cons, List.map_nil, List.cons_append, List.nil_append, List.length_cons, List.length_nil, List.replicate, List.getElem?_cons_zero, List.getElem?_cons_succ, Option.some.injEq, Nat.reduceSub, Nat.reduceAdd, true_and, exists_eq_left, exists_eq_left', e_ix_tup, e_ix_lst, e_ix_fz, e_ix_ref, e_lo_lst, e_lo_fz, e_lo_ref, e_so_lst, e_so_fz, e_so_tup, e_so_ref, e_hd_lst, e_hd_ref, e_add_int, e_add_str, e_add_tup, e_add_lst, e_sub_int, e_mul_int, e_mul_lst, e_mul_tup, e_mod_int, e_fdv_int, e_pow_int, e_lt_int, e_le_int, e_gt_int, e_ge_int, e_eq_int, e_ne_int, e_eq_str, e_ne_str, e_isN, e_notN, e_isN_non, e_isN_int, e_isN_tup, e_isN_str, e_isN_ref, e_isN_lst, e_abs, e_max2, e_min2, e_int_int, e_int_bl, e_str_int, e_str_str, e_str_non, e_len_str, e_len_tup, e_len_lst, e_len_fz, e_len_ref, e_list_tup, e_list_lst, e_list_fz, e_list_ref, e_tupl_tup, e_tupl_lst, e_tupl_ref, e_newT, e_newF, e_run_nm, e_run_tp, e_runs_nil, e_runs_cons, e_tru_bl, e_tru_int, e_tru_str, e_tru_lst, e_tru_tup, e_ty_str, e_ty_lst, e_ty_ref, e_append, e_insert, e_popAt, e_pop0, e_join, e_seqI_val, e_cut_str, e_cut_tup, e_cut_lst, e_cut_fz, e_cut_ref, mChain, mAugS, mStar, mEnumK, e_isi, e_isi2, e_all, e_intS_str, e_intS_int, e_inS, e_split, e_ix_str, e_iadd, e_tru_non]
    exact less_here hq
  · obtain ⟨u, rfl⟩ : ∃ u : Nat, i = (u : Nat) := ⟨i.toNat, by omega⟩
    have W := word_of (i := u) (by omega)
    have ec : cell (.int (u : Nat)) = (toString ((u : Nat) : Int) : Str) := rfl
    rw [ec] at hz hcl ⊢
    revert W hz hcl
    generalize (toString ((u : Nat) : Int) : Str) = z
    intro hz hcl W
    have e : (z.cps.toList.map fun c => decide (c ∈ DG)).all id = true := by
      rw [List.all_map]; exact W.dg
    rw [e]
    obtain ⟨c, r, ez, h0⟩ := W.hd
    simp only [Bool.not_true, b_number_in_3, mSeq, mIfS, mAsg, mRet, mRetN, mDrop, mTest, mOp, mC, mVar, mSetI, mNext, mCB, mCons, mNil, mAndT, mOrT, mNotT, mTruT, mIf, mNeg, mOr, mAnd, mNot, mLst, mTup, mBM, mBM0, mPar, mCall, mCallK, mLstRg1, mTupRg1, mRng1, mRng2, mEnum, mZipT, mFor, mSl, mNoPart, mPart, mLc, wipeM, List.set_cons_zero, List.set_cons_succ, startM, List.map_cons, List.map_nil, List.cons_append, List.nil_append, List.length_cons, List.length_nil, List.replicate, List.getElem?_cons_zero, List.getElem?_cons_succ, Option.some.injEq, Nat.reduceSub, Nat.reduceAdd, true_and, exists_eq_left, exists_eq_left', e_ix_tup, e_ix_lst, e_ix_fz, e_ix_ref, e_lo_lst, e_lo_fz, e_lo_ref, e_so_lst, e_so_fz, e_so_tup, e_so_ref, e_hd_lst, e_hd_ref, e_add_int, e_add_str, e_add_tup, e_add_lst, e_sub_int, e_mul_int, e_mul_lst, e_mul_tup, e_mod_int, e_fdv_int, e_pow_int, e_lt_int, e_le_int, e_gt_int, e_ge_int, e_eq_int, e_ne_int, e_eq_str, e_ne_str, e_isN, e_notN, e_isN_non, e_isN_int, e_isN_tup, e_isN_str, e_isN_ref, e_isN_lst, e_abs, e_max2, e_min2, e_int_int, e_int_bl, e_str_int, e_str_str, e_str_non, e_len_str, e_len_tup, e_len_lst, e_len_fz, e_len_ref, e_list_tup, e_list_lst, e_list_fz, e_list_ref, e_tupl_tup, e_tupl_lst, e_tupl_ref, e_newT, e_newF, e_run_nm, e_run_tp, e_runs_nil, e_runs_cons, e_tru_bl, e_tru_int, e_tru_str, e_tru_lst, e_tru_tup, e_ty_str, e_ty_lst, e_ty_ref, e_append, e_insert, e_popAt, e_pop0, e_join, e_seqI_val, e_cut_str, e_cut_tup, e_cut_lst, e_cut_fz, e_cut_ref, mChain, mAugS, mStar, mEnumK, e_isi, e_isi2, e_all, e_intS_str, e_intS_int, e_inS, e_split, e_ix_str, e_iadd, e_tru_non]
    refine ⟨by omega, c, ?_, ?_⟩
    · rw [ez]
      show (ixN (c :: r).length 0).bind _ = _
      rw [ixN_in (by omega) (by rw [List.length_cons]; omega)]; rfl
    have ge : mIntS [.str z] G fun x G1 => mGe x (.int (n : Nat)) G1 fun x G1 => match x with
        | .bl b => (match b with
          | true => b_number_in_4 { nx := b_number_in_5 { nx := fun x G' => less q D.non G', rt := less q }, rt := less q } [some (.str z), some (.int (n : Nat)), none] G1
          | false => b_number_in_5 { nx := fun x G' => less q D.non G', rt := less q } [some (.str z), some (.int (n : Nat)), none] G1)
        | _ => False := by
      simp only [mSeq, mIfS, mAsg, mRet, mRetN, mDrop, mTest, mOp, mC, mVar, mSetI, mNext, mCB, mCons, mNil, mAndT, mOrT, mNotT, mTruT, mIf, mNeg, mOr, mAnd, mNot, mLst, mTup, mBM, mBM0, mPar, mCall, mCallK, mLstRg1, mTupRg1, mRng1, mRng2, mEnum, mZipT, mFor, mSl, mNoPart, mPart, mLc, wipeM, List.set_cons_zero, List.set_cons_succ, startM, List.map_cons, List.map_nil, List.cons_append, List.nil_append, List.length_cons, List.length_nil, List.replicate, List.getElem?_cons_zero, List.getElem?_cons_succ, Option.some.injEq, Nat.reduceSub, Nat.reduceAdd, true_and, exists_eq_left, exists_eq_left', e_ix_tup, e_ix_lst, e_ix_fz, e_ix_ref, e_lo_lst, e_lo_fz, e_lo_ref, e_so_lst, e_so_fz, e_so_tup, e_so_ref, e_hd_lst, e_hd_ref, e_add_int, e_add_str, e_add_tup, e_add_lst, e_sub_int, e_mul_int, e_mul_lst, e_mul_tup, e_mod_int, e_fdv_int, e_pow_int, e_lt_int, e_le_int, e_gt_int, e_ge_int, e_eq_int, e_ne_int, e_eq_str, e_ne_str, e_isN, e_notN, e_isN_non, e_isN_int, e_isN_tup, e_isN_str, e_isN_ref, e_isN_lst, e_abs, e_max2, e_min2, e_int_int, e_int_bl, e_str_int, e_str_str, e_str_non, e_len_str, e_len_tup, e_len_lst, e_len_fz, e_len_ref, e_list_tup, e_list_lst, e_list_fz, e_list_ref, e_tupl_tup, e_tupl_lst, e_tupl_ref, e_newT, e_newF, e_run_nm, e_run_tp, e_runs_nil, e_runs_cons, e_tru_bl, e_tru_int, e_tru_str, e_tru_lst, e_tru_tup, e_ty_str, e_ty_lst, e_ty_ref, e_append, e_insert, e_popAt, e_pop0, e_join, e_seqI_val, e_cut_str, e_cut_tup, e_cut_lst, e_cut_fz, e_cut_ref, mChain, mAugS, mStar, mEnumK, e_isi, e_isi2, e_all, e_intS_str, e_intS_int, e_inS, e_split, e_ix_str, e_iadd, e_tru_non]
      refine ⟨u, W.int, by omega, ?_⟩
      have : ¬ ((n : Nat) : Int) ≤ (u : Nat) := by omega
      simp only [this, decide_false, b_number_in_5, mSeq, mIfS, mAsg, mRet, mRetN, mDrop, mTest, mOp, mC, mVar, mSetI, mNext, mCB, mCons, mNil, mAndT, mOrT, mNotT, mTruT, mIf, mNeg, mOr, mAnd, mNot, mLst, mTup, mBM, mBM0, mPar, mCall, mCallK, mLstRg1, mTupRg1, mRng1, mRng2, mEnum, mZipT, mFor, mSl, mNoPart, mPart, mLc, wipeM, List.set_cons_zero, List.set_cons_succ, startM, List.map_cons, List.map_nil, List.cons_append, List.nil_append, List.length_cons, List.length_nil, List.replicate, List.getElem?_cons_zero, List.getElem?_cons_succ, Option.some.injEq, Nat.reduceSub, Nat.reduceAdd, true_and, exists_eq_left, exists_eq_left', e_ix_tup, e_ix_lst, e_ix_fz, e_ix_ref, e_lo_lst, e_lo_fz, e_lo_ref, e_so_lst, e_so_fz, e_so_tup, e_so_ref, e_hd_lst, e_hd_ref, e_add_int, e_add_str, e_add_tup, e_add_lst, e_sub_int, e_mul_int, e_mul_lst, e_mul_tup, e_mod_int, e_fdv_int, e_pow_int, e_lt_int, e_le_int, e_gt_int, e_ge_int, e_eq_int, e_ne_int, e_eq_str, e_ne_str, e_isN, e_notN, e_isN_non, e_isN_int, e_isN_tup, e_isN_str, e_isN_ref, e_isN_lst, e_abs, e_max2, e_min2, e_int_int, e_int_bl, e_str_int, e_str_str, e_str_non, e_len_str, e_len_tup, e_len_lst, e_len_fz, e_len_ref, e_list_tup, e_list_lst, e_list_fz, e_list_ref, e_tupl_tup, e_tupl_lst, e_tupl_ref, e_newT, e_newF, e_run_nm, e_run_tp, e_runs_nil, e_runs_cons, e_tru_bl, e_tru_int, e_tru_str, e_tru_lst, e_tru_tup, e_ty_str, e_ty_lst, e_ty_ref, e_append, e_insert, e_popAt, e_pop0, e_join, e_seqI_val, e_cut_str, e_cut_tup, e_cut_lst, e_cut_fz, e_cut_ref, mChain, mAugS, mStar, mEnumK, e_isi, e_isi2, e_all, e_intS_str, e_intS_int, e_inS, e_split, e_ix_str, e_iadd, e_tru_non]
      exact ⟨u, W.int, by omega, less_here hq⟩
    by_cases hc : (⟨#[c]⟩ : Str) = "0"
    · have hz0 : z = "0" := h0 hc
      simp only [hc, hz0, decide_true, Bool.not_true, mSeq, mIfS, mAsg, mRet, mRetN, mDrop, mTest, mOp, mC, mVar, mSetI, mNext, mCB, mCons, mNil, mAndT, mOrT, mNotT, mTruT, mIf, mNeg, mOr, mAnd, mNot, mLst, mTup, mBM, mBM0, mPar, mCall, mCallK, mLstRg1, mTupRg1, mRng1, mRng2, mEnum, mZipT, mFor, mSl, mNoPart, mPart, mLc, wipeM, List.set_cons_zero, List.set_cons_succ, startM, List.map_cons, List.map_nil, List.cons_append, List.nil_append, List.length_cons, List.length_nil, List.replicate, List.getElem?_cons_zero, List.getElem?_cons_succ, Option.some.injEq, Nat.reduceSub, Nat.reduceAdd, true_and, exists_eq_left, exists_eq_left', e_ix_tup, e_ix_lst, e_ix_fz, e_ix_ref, e_lo_lst, e_lo_fz, e_lo_ref, e_so_lst, e_so_fz, e_so_tup, e_so_ref, e_hd_lst, e_hd_ref, e_add_int, e_add_str, e_add_tup, e_add_lst, e_sub_int, e_mul_int, e_mul_lst, e_mul_tup, e_mod_int, e_fdv_int, e_pow_int, e_lt_int, e_le_int, e_gt_int, e_ge_int, e_eq_int, e_ne_int, e_eq_str, e_ne_str, e_isN, e_notN, e_isN_non, e_isN_int, e_isN_tup, e_isN_str, e_isN_ref, e_isN_lst, e_abs, e_max2, e_min2, e_int_int, e_int_bl, e_str_int, e_str_str, e_str_non, e_len_str, e_len_tup, e_len_lst, e_len_fz, e_len_ref, e_list_tup, e_list_lst, e_list_fz, e_list_ref, e_tupl_tup, e_tupl_lst, e_tupl_ref, e_newT, e_newF, e_run_nm, e_run_tp, e_runs_nil, e_runs_cons, e_tru_bl, e_tru_int, e_tru_str, e_tru_lst, e_tru_tup, e_ty_str, e_ty_lst, e_ty_ref, e_append, e_insert, e_popAt, e_pop0, e_join, e_seqI_val, e_cut_str, e_cut_tup, e_cut_lst, e_cut_fz, e_cut_ref, mChain, mAugS, mStar, mEnumK, e_isi, e_isi2, e_all, e_intS_str, e_intS_int, e_inS, e_split, e_ix_str, e_iadd, e_tru_non]
      rw [hz0] at ge
      exact ge
    · simp only [hc, decide_false, mSeq, mIfS, mAsg, mRet, mRetN, mDrop, mTest, mOp, mC, mVar, mSetI, mNext, mCB, mCons, mNil, mAndT, mOrT, mNotT, mTruT, mIf, mNeg, mOr, mAnd, mNot, mLst, mTup, mBM, mBM0, mPar, mCall, mCallK, mLstRg1, mTupRg1, mRng1, mRng2, mEnum, mZipT, mFor, mSl, mNoPart, mPart, mLc, wipeM, List.set_cons_zero, List.set_cons_succ, startM, List.map_cons, List.map_nil, List.cons_append, List.nil_append, List.length_cons, List.length_nil, List.replicate, List.getElem?_cons_zero, List.getElem?_cons_succ, Option.some.injEq, Nat.reduceSub, Nat.reduceAdd, true_and, exists_eq_left, exists_eq_left', e_ix_tup, e_ix_lst, e_ix_fz, e_ix_ref, e_lo_lst, e_lo_fz, e_lo_ref, e_so_lst, e_so_fz, e_so_tup, e_so_ref, e_hd_lst, e_hd_ref, e_add_int, e_add_str, e_add_tup, e_add_lst, e_sub_int, e_mul_int, e_mul_lst, e_mul_tup, e_mod_int, e_fdv_int, e_pow_int, e_lt_int, e_le_int, e_gt_int, e_ge_int, e_eq_int, e_ne_int, e_eq_str, e_ne_str, e_isN, e_notN, e_isN_non, e_isN_int, e_isN_tup, e_isN_str, e_isN_ref, e_isN_lst, e_abs, e_max2, e_min2, e_int_int, e_int_bl, e_str_int, e_str_str, e_str_non, e_len_str, e_len_tup, e_len_lst, e_len_fz, e_len_ref, e_list_tup, e_list_lst, e_list_fz, e_list_ref, e_tupl_tup, e_tupl_lst, e_tupl_ref, e_newT, e_newF, e_run_nm, e_run_tp, e_runs_nil, e_runs_cons, e_tru_bl, e_tru_int, e_tru_str, e_tru_lst, e_tru_tup, e_ty_str, e_ty_lst, e_ty_ref, e_append, e_insert, e_popAt, e_pop0, e_join, e_seqI_val, e_cut_str, e_cut_tup, e_cut_lst, e_cut_fz, e_cut_ref, mChain, mAugS, mStar, mEnumK, e_isi, e_isi2, e_all, e_intS_str, e_intS_int, e_inS, e_split, e_ix_str, e_iadd, e_tru_non]
      exact ge
theorem law_parse_slots (x0 x1 x2 : D) (G : Gp) (q : MK) (h : p_parse_slots x0 x1 x2 G q) : b_parse_slots { nx := fun _ G' => less q .non G', rt := less q } (startM ["words", "line", "size", "found", "index", "word", "held"] [x0, x1, x2]) G := by
  obtain ⟨n, row, hr, hn, rfl, rfl, hq⟩ := h
  have hl := hr.1
  simp only [b_parse_slots, mSeq, mIfS, mAsg, mRet, mRetN, mDrop, mTest, mOp, mC, mVar, mSetI, mNext, mCB, mCons, mNil, mAndT, mOrT, mNotT, mTruT, mIf, mNeg, mOr, mAnd, mNot, mLst, mTup, mBM, mBM0, mPar, mCall, mCallK, mLstRg1, mTupRg1, mRng1, mRng2, mEnum, mZipT, mFor, mSl, mNoPart, mPart, mLc, wipeM, List.set_cons_zero, List.set_cons_succ, startM, List.map_cons, List.map_nil, List.cons_append, List.nil_append, List.length_cons, List.length_nil, List.replicate, List.getElem?_cons_zero, List.getElem?_cons_succ, Option.some.injEq, Nat.reduceSub, Nat.reduceAdd, true_and, exists_eq_left, exists_eq_left', e_ix_tup, e_ix_lst, e_ix_fz, e_ix_ref, e_lo_lst, e_lo_fz, e_lo_ref, e_so_lst, e_so_fz, e_so_tup, e_so_ref, e_hd_lst, e_hd_ref, e_add_int, e_add_str, e_add_tup, e_add_lst, e_sub_int, e_mul_int, e_mul_lst, e_mul_tup, e_mod_int, e_fdv_int, e_pow_int, e_lt_int, e_le_int, e_gt_int, e_ge_int, e_eq_int, e_ne_int, e_eq_str, e_ne_str, e_isN, e_notN, e_isN_non, e_isN_int, e_isN_tup, e_isN_str, e_isN_ref, e_isN_lst, e_abs, e_max2, e_min2, e_int_int, e_int_bl, e_str_int, e_str_str, e_str_non, e_len_str, e_len_tup, e_len_lst, e_len_fz, e_len_ref, e_list_tup, e_list_lst, e_list_fz, e_list_ref, e_tupl_tup, e_tupl_lst, e_tupl_ref, e_newT, e_newF, e_run_nm, e_run_tp, e_runs_nil, e_runs_cons, e_tru_bl, e_tru_int, e_tru_str, e_tru_lst, e_tru_tup, e_ty_str, e_ty_lst, e_ty_ref, e_append, e_insert, e_popAt, e_pop0, e_join, e_seqI_val, e_cut_str, e_cut_tup, e_cut_lst, e_cut_fz, e_cut_ref, mChain, mAugS, mStar, mEnumK, e_isi, e_isi2, e_all, e_intS_str, e_intS_int, e_inS, e_split, e_ix_str, e_iadd, e_tru_non]
  refine ⟨by decide, fun p hp => ?_⟩
  simp only [b_parse_slots_2, mSeq, mIfS, mAsg, mRet, mRetN, mDrop, mTest, mOp, mC, mVar, mSetI, mNext, mCB, mCons, mNil, mAndT, mOrT, mNotT, mTruT, mIf, mNeg, mOr, mAnd, mNot, mLst, mTup, mBM, mBM0, mPar, mCall, mCallK, mLstRg1, mTupRg1, mRng1, mRng2, mEnum, mZipT, mFor, mSl, mNoPart, mPart, mLc, wipeM, List.set_cons_zero, List.set_cons_succ, startM, List.map_cons, List.map_nil, List.cons_append, List.nil_append, List.length_cons, List.length_nil, List.replicate, List.getElem?_cons_zero, List.getElem?_cons_succ, Option.some.injEq, Nat.reduceSub, Nat.reduceAdd, true_and, exists_eq_left, exists_eq_left', e_ix_tup, e_ix_lst, e_ix_fz, e_ix_ref, e_lo_lst, e_lo_fz, e_lo_ref, e_so_lst, e_so_fz, e_so_tup, e_so_ref, e_hd_lst, e_hd_ref, e_add_int, e_add_str, e_add_tup, e_add_lst, e_sub_int, e_mul_int, e_mul_lst, e_mul_tup, e_mod_int, e_fdv_int, e_pow_int, e_lt_int, e_le_int, e_gt_int, e_ge_int, e_eq_int, e_ne_int, e_eq_str, e_ne_str, e_isN, e_notN, e_isN_non, e_isN_int, e_isN_tup, e_isN_str, e_isN_ref, e_isN_lst, e_abs, e_max2, e_min2, e_int_int, e_int_bl, e_str_int, e_str_str, e_str_non, e_len_str, e_len_tup, e_len_lst, e_len_fz, e_len_ref, e_list_tup, e_list_lst, e_list_fz, e_list_ref, e_tupl_tup, e_tupl_lst, e_tupl_ref, e_newT, e_newF, e_run_nm, e_run_tp, e_runs_nil, e_runs_cons, e_tru_bl, e_tru_int, e_tru_str, e_tru_lst, e_tru_tup, e_ty_str, e_ty_lst, e_ty_ref, e_append, e_insert, e_popAt, e_pop0, e_join, e_seqI_val, e_cut_str, e_cut_tup, e_cut_lst, e_cut_fz, e_cut_ref, mChain, mAugS, mStar, mEnumK, e_isi, e_isi2, e_all, e_intS_str, e_intS_int, e_inS, e_split, e_ix_str, e_iadd, e_tru_non]
  refine ⟨⟨by decide, by decide⟩, loop_ind (fun i τ G' => (∃ v4 v5 v6, τ = [some (.lst (row.map fun w => .str (cell w))), some x1, some (.int (n : Nat)), some (.ref p), v4, v5, v6]) ∧ G' p = some (.lst (row.take i)) ∧ ∀ c u, G c = some u → G' c = some u) ?_ ?_ ⟨⟨_, _, _, rfl⟩, by rw [put_same, List.take_zero], fun c u e => ?_⟩⟩
  · rintro i w τ G' N hw ⟨⟨v4, v5, v6, rfl⟩, gp, old⟩ hN
    refine ⟨trivial, ?_⟩
    obtain ⟨x, hx, rfl⟩ := enumK_get hw
    rw [List.getElem?_map] at hx
    cases hrow : row[i]? with
    | none => rw [hrow] at hx; cases hx
    | some y =>
      rw [hrow] at hx
      cases hx
      have hi := (List.getElem?_eq_some_iff.mp hrow).1
      have hy := hr.2 y (List.mem_of_getElem? hrow)
      have app : b_parse_slots_5 { nx := N, rt := less q, bk := b_parse_slots_6 { nx := fun x G' => less q D.non G', rt := less q }, ct := N } [some (.lst (row.map fun w => .str (cell w))), some x1, some (.int (n : Nat)), some (.ref p), some (.int (1 + (i : Nat))), some (.str (cell y)), some y] G' := by
        simp only [b_parse_slots_5, mSeq, mIfS, mAsg, mRet, mRetN, mDrop, mTest, mOp, mC, mVar, mSetI, mNext, mCB, mCons, mNil, mAndT, mOrT, mNotT, mTruT, mIf, mNeg, mOr, mAnd, mNot, mLst, mTup, mBM, mBM0, mPar, mCall, mCallK, mLstRg1, mTupRg1, mRng1, mRng2, mEnum, mZipT, mFor, mSl, mNoPart, mPart, mLc, wipeM, List.set_cons_zero, List.set_cons_succ, startM, List.map_cons, List.map_nil, List.cons_append, List.nil_append, List.length_cons, List.length_nil, List.replicate, List.getElem?_cons_zero, List.getElem?_cons_succ, Option.some.injEq, Nat.reduceSub, Nat.reduceAdd, true_and, exists_eq_left, exists_eq_left', e_ix_tup, e_ix_lst, e_ix_fz, e_ix_ref, e_lo_lst, e_lo_fz, e_lo_ref, e_so_lst, e_so_fz, e_so_tup, e_so_ref, e_hd_lst, e_hd_ref, e_add_int, e_add_str, e_add_tup, e_add_lst, e_sub_int, e_mul_int, e_mul_lst, e_mul_tup, e_mod_int, e_fdv_int, e_pow_int, e_lt_int, e_le_int, e_gt_int, e_ge_int, e_eq_int, e_ne_int, e_eq_str, e_ne_str, e_isN, e_notN, e_isN_non, e_isN_int, e_isN_tup, e_isN_str, e_isN_ref, e_isN_lst, e_abs, e_max2, e_min2, e_int_int, e_int_bl, e_str_int, e_str_str, e_str_non, e_len_str, e_len_tup, e_len_lst, e_len_fz, e_len_ref, e_list_tup, e_list_lst, e_list_fz, e_list_ref, e_tupl_tup, e_tupl_lst, e_tupl_ref, e_newT, e_newF, e_run_nm, e_run_tp, e_runs_nil, e_runs_cons, e_tru_bl, e_tru_int, e_tru_str, e_tru_lst, e_tru_tup, e_ty_str, e_ty_lst, e_ty_ref, e_append, e_insert, e_popAt, e_pop0, e_join, e_seqI_val, e_cut_str, e_cut_tup, e_cut_lst, e_cut_fz, e_cut_ref, mChain, mAugS, mStar, mEnumK, e_isi, e_isi2, e_all, e_intS_str, e_intS_int, e_inS, e_split, e_ix_str, e_iadd, e_tru_non]
        refine ⟨⟨_, gp⟩, _, gp, by rw [List.length_take]; have := sizeLine_eq; omega, hN _ _ ⟨⟨_, _, _, rfl⟩, by rw [put_same, take_next' hrow], fun c u e => ?_⟩⟩
        have : c ≠ p := fun z => by subst z; rw [hp] at e; cases e
        rw [put_ne this]; exact old c u e
      simp only [b_parse_slots_3, e_sp_number_in, mSeq, mIfS, mAsg, mRet, mRetN, mDrop, mTest, mOp, mC, mVar, mSetI, mNext, mCB, mCons, mNil, mAndT, mOrT, mNotT, mTruT, mIf, mNeg, mOr, mAnd, mNot, mLst, mTup, mBM, mBM0, mPar, mCall, mCallK, mLstRg1, mTupRg1, mRng1, mRng2, mEnum, mZipT, mFor, mSl, mNoPart, mPart, mLc, wipeM, List.set_cons_zero, List.set_cons_succ, startM, List.map_cons, List.map_nil, List.cons_append, List.nil_append, List.length_cons, List.length_nil, List.replicate, List.getElem?_cons_zero, List.getElem?_cons_succ, Option.some.injEq, Nat.reduceSub, Nat.reduceAdd, true_and, exists_eq_left, exists_eq_left', e_ix_tup, e_ix_lst, e_ix_fz, e_ix_ref, e_lo_lst, e_lo_fz, e_lo_ref, e_so_lst, e_so_fz, e_so_tup, e_so_ref, e_hd_lst, e_hd_ref, e_add_int, e_add_str, e_add_tup, e_add_lst, e_sub_int, e_mul_int, e_mul_lst, e_mul_tup, e_mod_int, e_fdv_int, e_pow_int, e_lt_int, e_le_int, e_gt_int, e_ge_int, e_eq_int, e_ne_int, e_eq_str, e_ne_str, e_isN, e_notN, e_isN_non, e_isN_int, e_isN_tup, e_isN_str, e_isN_ref, e_isN_lst, e_abs, e_max2, e_min2, e_int_int, e_int_bl, e_str_int, e_str_str, e_str_non, e_len_str, e_len_tup, e_len_lst, e_len_fz, e_len_ref, e_list_tup, e_list_lst, e_list_fz, e_list_ref, e_tupl_tup, e_tupl_lst, e_tupl_ref, e_newT, e_newF, e_run_nm, e_run_tp, e_runs_nil, e_runs_cons, e_tru_bl, e_tru_int, e_tru_str, e_tru_lst, e_tru_tup, e_ty_str, e_ty_lst, e_ty_ref, e_append, e_insert, e_popAt, e_pop0, e_join, e_seqI_val, e_cut_str, e_cut_tup, e_cut_lst, e_cut_fz, e_cut_ref, mChain, mAugS, mStar, mEnumK, e_isi, e_isi2, e_all, e_intS_str, e_intS_int, e_inS, e_split, e_ix_str, e_iadd, e_tru_non]
      refine ⟨n, y, hy, hn, rfl, rfl, ?_⟩
      have le : (1 : Int) + (i : Nat) ≤ 40 := by omega
      simp only [b_parse_slots_4, le, decide_true, mSeq, mIfS, mAsg, mRet, mRetN, mDrop, mTest, mOp, mC, mVar, mSetI, mNext, mCB, mCons, mNil, mAndT, mOrT, mNotT, mTruT, mIf, mNeg, mOr, mAnd, mNot, mLst, mTup, mBM, mBM0, mPar, mCall, mCallK, mLstRg1, mTupRg1, mRng1, mRng2, mEnum, mZipT, mFor, mSl, mNoPart, mPart, mLc, wipeM, List.set_cons_zero, List.set_cons_succ, startM, List.map_cons, List.map_nil, List.cons_append, List.nil_append, List.length_cons, List.length_nil, List.replicate, List.getElem?_cons_zero, List.getElem?_cons_succ, Option.some.injEq, Nat.reduceSub, Nat.reduceAdd, true_and, exists_eq_left, exists_eq_left', e_ix_tup, e_ix_lst, e_ix_fz, e_ix_ref, e_lo_lst, e_lo_fz, e_lo_ref, e_so_lst, e_so_fz, e_so_tup, e_so_ref, e_hd_lst, e_hd_ref, e_add_int, e_add_str, e_add_tup, e_add_lst, e_sub_int, e_mul_int, e_mul_lst, e_mul_tup, e_mod_int, e_fdv_int, e_pow_int, e_lt_int, e_le_int, e_gt_int, e_ge_int, e_eq_int, e_ne_int, e_eq_str, e_ne_str, e_isN, e_notN, e_isN_non, e_isN_int, e_isN_tup, e_isN_str, e_isN_ref, e_isN_lst, e_abs, e_max2, e_min2, e_int_int, e_int_bl, e_str_int, e_str_str, e_str_non, e_len_str, e_len_tup, e_len_lst, e_len_fz, e_len_ref, e_list_tup, e_list_lst, e_list_fz, e_list_ref, e_tupl_tup, e_tupl_lst, e_tupl_ref, e_newT, e_newF, e_run_nm, e_run_tp, e_runs_nil, e_runs_cons, e_tru_bl, e_tru_int, e_tru_str, e_tru_lst, e_tru_tup, e_ty_str, e_ty_lst, e_ty_ref, e_append, e_insert, e_popAt, e_pop0, e_join, e_seqI_val, e_cut_str, e_cut_tup, e_cut_lst, e_cut_fz, e_cut_ref, mChain, mAugS, mStar, mEnumK, e_isi, e_isi2, e_all, e_intS_str, e_intS_int, e_inS, e_split, e_ix_str, e_iadd, e_tru_non]
      by_cases hd : cell y = "-"
      · simp only [hd, decide_true, e_sp_require_word, mSeq, mIfS, mAsg, mRet, mRetN, mDrop, mTest, mOp, mC, mVar, mSetI, mNext, mCB, mCons, mNil, mAndT, mOrT, mNotT, mTruT, mIf, mNeg, mOr, mAnd, mNot, mLst, mTup, mBM, mBM0, mPar, mCall, mCallK, mLstRg1, mTupRg1, mRng1, mRng2, mEnum, mZipT, mFor, mSl, mNoPart, mPart, mLc, wipeM, List.set_cons_zero, List.set_cons_succ, startM, List.map_cons, List.map_nil, List.cons_append, List.nil_append, List.length_cons, List.length_nil, List.replicate, List.getElem?_cons_zero, List.getElem?_cons_succ, Option.some.injEq, Nat.reduceSub, Nat.reduceAdd, true_and, exists_eq_left, exists_eq_left', e_ix_tup, e_ix_lst, e_ix_fz, e_ix_ref, e_lo_lst, e_lo_fz, e_lo_ref, e_so_lst, e_so_fz, e_so_tup, e_so_ref, e_hd_lst, e_hd_ref, e_add_int, e_add_str, e_add_tup, e_add_lst, e_sub_int, e_mul_int, e_mul_lst, e_mul_tup, e_mod_int, e_fdv_int, e_pow_int, e_lt_int, e_le_int, e_gt_int, e_ge_int, e_eq_int, e_ne_int, e_eq_str, e_ne_str, e_isN, e_notN, e_isN_non, e_isN_int, e_isN_tup, e_isN_str, e_isN_ref, e_isN_lst, e_abs, e_max2, e_min2, e_int_int, e_int_bl, e_str_int, e_str_str, e_str_non, e_len_str, e_len_tup, e_len_lst, e_len_fz, e_len_ref, e_list_tup, e_list_lst, e_list_fz, e_list_ref, e_tupl_tup, e_tupl_lst, e_tupl_ref, e_newT, e_newF, e_run_nm, e_run_tp, e_runs_nil, e_runs_cons, e_tru_bl, e_tru_int, e_tru_str, e_tru_lst, e_tru_tup, e_ty_str, e_ty_lst, e_ty_ref, e_append, e_insert, e_popAt, e_pop0, e_join, e_seqI_val, e_cut_str, e_cut_tup, e_cut_lst, e_cut_fz, e_cut_ref, mChain, mAugS, mStar, mEnumK, e_isi, e_isi2, e_all, e_intS_str, e_intS_int, e_inS, e_split, e_ix_str, e_iadd, e_tru_non]
        rw [hd] at app
        exact ⟨rfl, app⟩
      · have hne : isN y = false := by
          rcases hy with rfl | ⟨j, rfl, _⟩
          · exact absurd rfl hd
          · rfl
        simp only [hd, hne, decide_false, Bool.not_false, e_sp_require_word, mSeq, mIfS, mAsg, mRet, mRetN, mDrop, mTest, mOp, mC, mVar, mSetI, mNext, mCB, mCons, mNil, mAndT, mOrT, mNotT, mTruT, mIf, mNeg, mOr, mAnd, mNot, mLst, mTup, mBM, mBM0, mPar, mCall, mCallK, mLstRg1, mTupRg1, mRng1, mRng2, mEnum, mZipT, mFor, mSl, mNoPart, mPart, mLc, wipeM, List.set_cons_zero, List.set_cons_succ, startM, List.map_cons, List.map_nil, List.cons_append, List.nil_append, List.length_cons, List.length_nil, List.replicate, List.getElem?_cons_zero, List.getElem?_cons_succ, Option.some.injEq, Nat.reduceSub, Nat.reduceAdd, true_and, exists_eq_left, exists_eq_left', e_ix_tup, e_ix_lst, e_ix_fz, e_ix_ref, e_lo_lst, e_lo_fz, e_lo_ref, e_so_lst, e_so_fz, e_so_tup, e_so_ref, e_hd_lst, e_hd_ref, e_add_int, e_add_str, e_add_tup, e_add_lst, e_sub_int, e_mul_int, e_mul_lst, e_mul_tup, e_mod_int, e_fdv_int, e_pow_int, e_lt_int, e_le_int, e_gt_int, e_ge_int, e_eq_int, e_ne_int, e_eq_str, e_ne_str, e_isN, e_notN, e_isN_non, e_isN_int, e_isN_tup, e_isN_str, e_isN_ref, e_isN_lst, e_abs, e_max2, e_min2, e_int_int, e_int_bl, e_str_int, e_str_str, e_str_non, e_len_str, e_len_tup, e_len_lst, e_len_fz, e_len_ref, e_list_tup, e_list_lst, e_list_fz, e_list_ref, e_tupl_tup, e_tupl_lst, e_tupl_ref, e_newT, e_newF, e_run_nm, e_run_tp, e_runs_nil, e_runs_cons, e_tru_bl, e_tru_int, e_tru_str, e_tru_lst, e_tru_tup, e_ty_str, e_ty_lst, e_ty_ref, e_append, e_insert, e_popAt, e_pop0, e_join, e_seqI_val, e_cut_str, e_cut_tup, e_cut_lst, e_cut_fz, e_cut_ref, mChain, mAugS, mStar, mEnumK, e_isi, e_isi2, e_all, e_intS_str, e_intS_int, e_inS, e_split, e_ix_str, e_iadd, e_tru_non]
        exact ⟨rfl, app⟩
  · rintro τ G' ⟨⟨v4, v5, v6, rfl⟩, gp, old⟩
    refine ⟨trivial, ?_⟩
    rw [enumK_len, List.length_map, List.take_length] at gp
    simp only [b_parse_slots_6, mSeq, mIfS, mAsg, mRet, mRetN, mDrop, mTest, mOp, mC, mVar, mSetI, mNext, mCB, mCons, mNil, mAndT, mOrT, mNotT, mTruT, mIf, mNeg, mOr, mAnd, mNot, mLst, mTup, mBM, mBM0, mPar, mCall, mCallK, mLstRg1, mTupRg1, mRng1, mRng2, mEnum, mZipT, mFor, mSl, mNoPart, mPart, mLc, wipeM, List.set_cons_zero, List.set_cons_succ, startM, List.map_cons, List.map_nil, List.cons_append, List.nil_append, List.length_cons, List.length_nil, List.replicate, List.getElem?_cons_zero, List.getElem?_cons_succ, Option.some.injEq, Nat.reduceSub, Nat.reduceAdd, true_and, exists_eq_left, exists_eq_left', e_ix_tup, e_ix_lst, e_ix_fz, e_ix_ref, e_lo_lst, e_lo_fz, e_lo_ref, e_so_lst, e_so_fz, e_so_tup, e_so_ref, e_hd_lst, e_hd_ref, e_add_int, e_add_str, e_add_tup, e_add_lst, e_sub_int, e_mul_int, e_mul_lst, e_mul_tup, e_mod_int, e_fdv_int, e_pow_int, e_lt_int, e_le_int, e_gt_int, e_ge_int, e_eq_int, e_ne_int, e_eq_str, e_ne_str, e_isN, e_notN, e_isN_non, e_isN_int, e_isN_tup, e_isN_str, e_isN_ref, e_isN_lst, e_abs, e_max2, e_min2, e_int_int, e_int_bl, e_str_int, e_str_str, e_str_non, e_len_str, e_len_tup, e_len_lst, e_len_fz, e_len_ref, e_list_tup, e_list_lst, e_list_fz, e_list_ref, e_tupl_tup, e_tupl_lst, e_tupl_ref, e_newT, e_newF, e_run_nm, e_run_tp, e_runs_nil, e_runs_cons, e_tru_bl, e_tru_int, e_tru_str, e_tru_lst, e_tru_tup, e_ty_str, e_ty_lst, e_ty_ref, e_append, e_insert, e_popAt, e_pop0, e_join, e_seqI_val, e_cut_str, e_cut_tup, e_cut_lst, e_cut_fz, e_cut_ref, mChain, mAugS, mStar, mEnumK, e_isi, e_isi2, e_all, e_intS_str, e_intS_int, e_inS, e_split, e_ix_str, e_iadd, e_tru_non]
    exact less_frz old gp hp hq
  · have : c ≠ p := fun z => by subst z; rw [hp] at e; cases e
    rw [put_ne this]; exact e
end Q82

set_option maxRecDepth 100000
namespace Q82
open PySem PySem.Spec L2 ML
open PyProof.Rows hiding St
/-! ### texts -/
theorem str_assoc (a b c : Str) : a ++ b ++ c = a ++ (b ++ c) := by
  show Str.mk (a.cps ++ b.cps ++ c.cps) = Str.mk (a.cps ++ (b.cps ++ c.cps))
  rw [Array.append_assoc]
theorem join_fold (a : Str) : ∀ (ys : List Str) (x : Str), Txt.join a (x :: ys) = ys.foldl (fun acc y => acc ++ a ++ y) x := by
  have key : ∀ (r : List Str) (s t : Str), r.foldl (fun acc y => acc ++ a ++ y) (s ++ t) = s ++ r.foldl (fun acc y => acc ++ a ++ y) t := by
    intro r
    induction r with
    | nil => intro s t; rfl
    | cons y r ih => intro s t; rw [List.foldl_cons, List.foldl_cons, ← ih, str_assoc, str_assoc, str_assoc]
  intro ys
  induction ys with
  | nil => intro x; rw [join_eq]; rfl
  | cons y r ih =>
    intro x
    have h := ih y
    rw [join_eq] at h ⊢
    show x ++ a ++ Str.join a (y :: r) = _
    rw [h, List.foldl_cons, key]
theorem len_app (a b : Str) : (a ++ b).length = a.length + b.length := PySem.strLen_append a b
theorem join_pos {a x : Str} {r : List Str} (h : 0 < x.length) : 0 < (Txt.join a (x :: r)).length := by
  rw [join_fold]
  induction r generalizing x with
  | nil => exact h
  | cons y r ih => rw [List.foldl_cons]; exact ih (by rw [len_app, len_app]; omega)
/-- what is written of it is short -/
def Wr (x : D) : Prop := (cell x).length ≤ 31 ∧ PyData.strOk (cell x) = true
theorem wr_non : Wr .non := ⟨by show (("-" : Str)).length ≤ 31; decide, by show PyData.strOk "-" = true; decide +kernel⟩
theorem wr_int {i : Int} (h0 : 0 ≤ i) (h1 : i ≤ 10 ^ 30) : Wr (.int i) := ⟨int_len h0 h1, sok_int i⟩
theorem wr_ref {n : Nat} (hn : n ≤ 1000) {x : D} (h : RefOk n x) : Wr x := by
  rcases h with rfl | ⟨i, rfl, a, b⟩
  · exact wr_non
  · exact wr_int a (by omega)
theorem wr_out {x : D} (h : OutOk x) : Wr x := by obtain ⟨i, rfl, a, b⟩ := h; exact wr_int a (by omega)
theorem wr_sum {xs : List D} (h : ∀ x ∈ xs, Wr x) : ((xs.map cell).map (·.length)).sum ≤ xs.length * 31 := by
  have := sum_le (f := fun y : Str => y.length) (n := 31) (xs := xs.map cell) fun y hy => by obtain ⟨x, hx, rfl⟩ := List.mem_map.mp hy; exact (h x hx).1
  rwa [List.length_map] at this
theorem strs_cells (xs : List D) (f : D → Str) : strsOf (xs.map fun x => D.str (f x)) = some (xs.map f) := by
  rw [show (xs.map fun x => D.str (f x)) = (xs.map f).map D.str by rw [List.map_map]; rfl, strsOf_map]
theorem join_short {a : Str} {xs : List D} {n : Nat} (h : ∀ x ∈ xs, Wr x) (hn : xs.length ≤ n) (ha : a.length = 1) : (Txt.join a (xs.map cell)).length ≤ n * 32 := by
  have h1 := join_len (a := a) (ys := xs.map cell) (n := 31) fun y hy => by obtain ⟨x, hx, rfl⟩ := List.mem_map.mp hy; exact (h x hx).1
  rw [List.length_map, ha] at h1
  exact Nat.le_trans h1 (Nat.mul_le_mul_right _ hn)
theorem join_sok {a : Str} {xs : List D} (h : ∀ x ∈ xs, Wr x) (ha : PyData.strOk a = true) : PyData.strOk (Txt.join a (xs.map cell)) = true :=
  sok_join ha fun y hy => by obtain ⟨x, hx, rfl⟩ := List.mem_map.mp hy; exact (h x hx).2
theorem sp_len : ((" " : Str)).length = 1 := by decide
theorem nl_len : (("\n" : Str)).length = 1 := by decide
theorem sp_ok : PyData.strOk " " = true := by decide +kernel
theorem nl_ok : PyData.strOk "\n" = true := by decide +kernel
theorem da_ok : PyData.strOk "-" = true := by decide +kernel
theorem fr_ok : PyData.strOk "free" = true := by decide +kernel
/-- a text of at most n signs -/
def Tx (n : Nat) (z : Str) : Prop := z.length ≤ n ∧ PyData.strOk z = true
theorem tx_line {x y : D} {n : Nat} (hn : n ≤ 40) (h : SlotOk n x) (hy : OutOk y) : Tx 3000 (lineT x y) := by
  rcases h with rfl | ⟨row, rfl, h⟩
  · exact ⟨by show (("free" : Str)).length ≤ 3000; decide, fr_ok⟩
  · have hw : ∀ x ∈ y :: row, Wr x := fun x hx => by
      rcases List.mem_cons.mp hx with rfl | hx
      · exact wr_out hy
      · exact wr_ref (by omega) (h.2 x hx)
    have hl : (y :: row).length ≤ 91 := by rw [List.length_cons]; have := h.1; omega
    exact ⟨Nat.le_trans (join_short (a := " ") hw hl sp_len) (by decide), join_sok (a := " ") hw sp_ok⟩
theorem mem_zip {slots outs : List D} {z : Str} (h : z ∈ List.zipWith lineT slots outs) : ∃ x y, x ∈ slots ∧ y ∈ outs ∧ z = lineT x y := by
  obtain ⟨i, hi, rfl⟩ := List.mem_iff_getElem.mp h
  rw [List.getElem_zipWith]
  exact ⟨_, _, List.getElem_mem _, List.getElem_mem _, rfl⟩
theorem big_join {ys : List Str} (h : ∀ y ∈ ys, Tx 3000 y) (hl : ys.length ≤ 90) : Tx 300000 (Txt.join "\n" ys) ∧ (ys.map (·.length)).sum + ys.length * (("\n" : Str)).length ≤ 16777216 := by
  have h1 := join_len (a := "\n") (n := 3000) fun y hy => (h y hy).1
  have h2 := sum_le (f := fun y : Str => y.length) (n := 3000) fun y hy => (h y hy).1
  rw [nl_len] at h1 ⊢
  have h3 : ys.length * 3000 ≤ 90 * 3000 := Nat.mul_le_mul_right _ hl
  have h4 : ys.length * (3000 + 1) ≤ 90 * (3000 + 1) := Nat.mul_le_mul_right _ hl
  exact ⟨⟨by omega, sok_join nl_ok fun y hy => (h y hy).2⟩, by omega⟩
theorem heap_lines {slots outs : List D} (h : HeapOk slots outs) : (∀ y ∈ List.zipWith lineT slots outs, Tx 3000 y) ∧ (List.zipWith lineT slots outs).length = slots.length := by
  refine ⟨fun y hy => ?_, by rw [List.length_zipWith, h.1, Nat.min_self]⟩
  obtain ⟨x, z, hx, hz, rfl⟩ := mem_zip hy
  exact tx_line h.2.1 (h.2.2.1 x hx) (h.2.2.2 z hz)
/-- the law's own line -/
def lineP (out : D) (l : List D) : Str := (l.map cell).foldl (fun acc y => acc ++ " " ++ y) (cell out)
theorem lineP_len {out : D} {l : List D} (ho : Wr out) (h : ∀ x ∈ l, Wr x) : (lineP out l).length ≤ 31 + l.length * 32 := by
  unfold lineP
  rw [← join_fold]
  have := join_short (a := " ") (xs := out :: l) (n := l.length + 1) (fun x hx => by
    rcases List.mem_cons.mp hx with rfl | hx
    · exact ho
    · exact h x hx) (by simp) sp_len
  rw [List.map_cons] at this
  have h2 := StrLaws.join_length_le " " (cell out :: l.map cell)
  rw [← join_eq] at h2
  have h3 := wr_sum (xs := out :: l) (fun x hx => by
    rcases List.mem_cons.mp hx with rfl | hx
    · exact ho
    · exact h x hx)
  rw [List.map_cons, List.map_cons, List.sum_cons, List.length_cons] at h3
  rw [List.map_cons, List.sum_cons, List.length_cons, sp_len, List.length_map] at h2
  have e : (fun x : Str => x.length) = Str.length := rfl
  rw [e] at h2 h3
  -- the first one has no sign ahead of it
  have h4 : (Txt.join " " (cell out :: l.map cell)).length ≤ (cell out).length + l.length * 32 := by
    rw [join_fold]
    clear h2 h3 this
    have key : ∀ (l : List D) (s : Str), (∀ x ∈ l, Wr x) → ((l.map cell).foldl (fun (acc y : Str) => acc ++ (" " : Str) ++ y) s).length ≤ s.length + l.length * 32 := by
      intro l
      induction l with
      | nil => intro s _; simp
      | cons x r ih =>
        intro s h
        rw [List.map_cons, List.foldl_cons]
        have := ih (s ++ " " ++ cell x) fun y hy => h y (List.mem_cons_of_mem _ hy)
        rw [len_app, len_app, sp_len] at this
        have := (h x List.mem_cons_self).1
        rw [List.length_cons]; omega
    exact key l _ h
  have := ho.1
  omega
theorem lineP_step (out : D) (l : List D) (x : D) : lineP out (l ++ [x]) = lineP out l ++ " " ++ cell x := by
  unfold lineP
  rw [List.map_append, List.foldl_append]; rfl
theorem lineP_all (out : D) (row : List D) : lineP out row = lineT (.tup row) out := by
  show _ = Txt.join " " (cell out :: row.map cell)
  rw [join_fold]; rfl
theorem law_heap_text (x0 : D) (G : Gp) (q : MK) (h : p_heap_text x0 G q) : b_heap_text { nx := fun _ G' => less q .non G', rt := less q } (startM ["_law_home", "_law_lines", "_law_v", "_law_row", "_law_line", "_law_held"] [x0]) G := by
  obtain ⟨slots, outs, rfl, hh, hq⟩ := h
  simp only [b_heap_text, b_heap_text_2, mSeq, mIfS, mAsg, mRet, mRetN, mDrop, mTest, mOp, mC, mVar, mSetI, mNext, mCB, mCons, mNil, mAndT, mOrT, mNotT, mTruT, mIf, mNeg, mOr, mAnd, mNot, mLst, mTup, mBM, mBM0, mPar, mCall, mCallK, mLstRg1, mTupRg1, mRng1, mRng2, mEnum, mZipT, mFor, mSl, mNoPart, mPart, mLc, wipeM, List.set_cons_zero, List.set_cons_succ, startM, List.map_cons, List.map_nil, List.cons_append, List.nil_append, List.length_cons, List.length_nil, List.replicate, List.getElem?_cons_zero, List.getElem?_cons_succ, Option.some.injEq, Nat.reduceSub, Nat.reduceAdd, true_and, exists_eq_left, exists_eq_left', e_ix_tup, e_ix_lst, e_ix_fz, e_ix_ref, e_lo_lst, e_lo_fz, e_lo_ref, e_so_lst, e_so_fz, e_so_tup, e_so_ref, e_hd_lst, e_hd_ref, e_add_int, e_add_str, e_add_tup, e_add_lst, e_sub_int, e_mul_int, e_mul_lst, e_mul_tup, e_mod_int, e_fdv_int, e_pow_int, e_lt_int, e_le_int, e_gt_int, e_ge_int, e_eq_int, e_ne_int, e_eq_str, e_ne_str, e_isN, e_notN, e_isN_non, e_isN_int, e_isN_tup, e_isN_str, e_isN_ref, e_isN_lst, e_abs, e_max2, e_min2, e_int_int, e_int_bl, e_str_int, e_str_str, e_str_non, e_len_str, e_len_tup, e_len_lst, e_len_fz, e_len_ref, e_list_tup, e_list_lst, e_list_fz, e_list_ref, e_tupl_tup, e_tupl_lst, e_tupl_ref, e_newT, e_newF, e_run_nm, e_run_tp, e_runs_nil, e_runs_cons, e_tru_bl, e_tru_int, e_tru_str, e_tru_lst, e_tru_tup, e_ty_str, e_ty_lst, e_ty_ref, e_append, e_insert, e_popAt, e_pop0, e_join, e_seqI_val, e_cut_str, e_cut_tup, e_cut_lst, e_cut_fz, e_cut_ref]
  obtain ⟨h1, h2⟩ := heap_lines hh
  have hl := hh.2.1
  have hlo := hh.1
  refine ⟨Nat.zero_le _, fun p hp => ⟨_, rfl, ?_⟩⟩
  simp only [mSeq, mIfS, mAsg, mRet, mRetN, mDrop, mTest, mOp, mC, mVar, mSetI, mNext, mCB, mCons, mNil, mAndT, mOrT, mNotT, mTruT, mIf, mNeg, mOr, mAnd, mNot, mLst, mTup, mBM, mBM0, mPar, mCall, mCallK, mLstRg1, mTupRg1, mRng1, mRng2, mEnum, mZipT, mFor, mSl, mNoPart, mPart, mLc, wipeM, List.set_cons_zero, List.set_cons_succ, startM, List.map_cons, List.map_nil, List.cons_append, List.nil_append, List.length_cons, List.length_nil, List.replicate, List.getElem?_cons_zero, List.getElem?_cons_succ, Option.some.injEq, Nat.reduceSub, Nat.reduceAdd, true_and, exists_eq_left, exists_eq_left', e_ix_tup, e_ix_lst, e_ix_fz, e_ix_ref, e_lo_lst, e_lo_fz, e_lo_ref, e_so_lst, e_so_fz, e_so_tup, e_so_ref, e_hd_lst, e_hd_ref, e_add_int, e_add_str, e_add_tup, e_add_lst, e_sub_int, e_mul_int, e_mul_lst, e_mul_tup, e_mod_int, e_fdv_int, e_pow_int, e_lt_int, e_le_int, e_gt_int, e_ge_int, e_eq_int, e_ne_int, e_eq_str, e_ne_str, e_isN, e_notN, e_isN_non, e_isN_int, e_isN_tup, e_isN_str, e_isN_ref, e_isN_lst, e_abs, e_max2, e_min2, e_int_int, e_int_bl, e_str_int, e_str_str, e_str_non, e_len_str, e_len_tup, e_len_lst, e_len_fz, e_len_ref, e_list_tup, e_list_lst, e_list_fz, e_list_ref, e_tupl_tup, e_tupl_lst, e_tupl_ref, e_newT, e_newF, e_run_nm, e_run_tp, e_runs_nil, e_runs_cons, e_tru_bl, e_tru_int, e_tru_str, e_tru_lst, e_tru_tup, e_ty_str, e_ty_lst, e_ty_ref, e_append, e_insert, e_popAt, e_pop0, e_join, e_seqI_val, e_cut_str, e_cut_tup, e_cut_lst, e_cut_fz, e_cut_ref]
  refine loop_ind (fun i τ G' => (∃ v2 v3 v4 v5, τ = [some (.tup [.tup slots, .tup outs]), some (.ref p), v2, v3, v4, v5]) ∧ G' p = some (.lst (((List.zipWith lineT slots outs).take i).map D.str)) ∧ ∀ b u, G b = some u → G' b = some u) ?_ ?_ ⟨⟨_, _, _, _, rfl⟩, put_same, fun b u e => ?_⟩
  · rintro i w τ G' N hw ⟨⟨v2, v3, v4, v5, rfl⟩, gp, old⟩ hN
    refine ⟨trivial, ?_⟩
    obtain ⟨row, hrow, rfl⟩ := enumD_get hw
    have hi := (List.getElem?_eq_some_iff.mp hrow).1
    have hout : outs[i]? = some outs[i] := List.getElem?_eq_getElem (by omega)
    have ho := hh.2.2.2 _ (List.mem_of_getElem? hout)
    have hs := hh.2.2.1 _ (List.mem_of_getElem? hrow)
    have hz : (List.zipWith lineT slots outs)[i]? = some (lineT row outs[i]) := by rw [List.getElem?_zipWith, hrow, hout]
    have app : ∀ (v5 : Option D) (G2 : Gp) (z : Str), G2 = G' → z = lineT row outs[i] → b_heap_text_8 { nx := N, rt := less q, bk := b_heap_text_9 { nx := fun x G' => less q D.non G', rt := less q }, ct := N } [some (.tup [.tup slots, .tup outs]), some (.ref p), some (.int (i : Nat)), some row, some (.str z), v5] G2 := by
      rintro v5 G2 z rfl rfl
      simp only [b_heap_text_8, mSeq, mIfS, mAsg, mRet, mRetN, mDrop, mTest, mOp, mC, mVar, mSetI, mNext, mCB, mCons, mNil, mAndT, mOrT, mNotT, mTruT, mIf, mNeg, mOr, mAnd, mNot, mLst, mTup, mBM, mBM0, mPar, mCall, mCallK, mLstRg1, mTupRg1, mRng1, mRng2, mEnum, mZipT, mFor, mSl, mNoPart, mPart, mLc, wipeM, List.set_cons_zero, List.set_cons_succ, startM, List.map_cons, List.map_nil, List.cons_append, List.nil_append, List.length_cons, List.length_nil, List.replicate, List.getElem?_cons_zero, List.getElem?_cons_succ, Option.some.injEq, Nat.reduceSub, Nat.reduceAdd, true_and, exists_eq_left, exists_eq_left', e_ix_tup, e_ix_lst, e_ix_fz, e_ix_ref, e_lo_lst, e_lo_fz, e_lo_ref, e_so_lst, e_so_fz, e_so_tup, e_so_ref, e_hd_lst, e_hd_ref, e_add_int, e_add_str, e_add_tup, e_add_lst, e_sub_int, e_mul_int, e_mul_lst, e_mul_tup, e_mod_int, e_fdv_int, e_pow_int, e_lt_int, e_le_int, e_gt_int, e_ge_int, e_eq_int, e_ne_int, e_eq_str, e_ne_str, e_isN, e_notN, e_isN_non, e_isN_int, e_isN_tup, e_isN_str, e_isN_ref, e_isN_lst, e_abs, e_max2, e_min2, e_int_int, e_int_bl, e_str_int, e_str_str, e_str_non, e_len_str, e_len_tup, e_len_lst, e_len_fz, e_len_ref, e_list_tup, e_list_lst, e_list_fz, e_list_ref, e_tupl_tup, e_tupl_lst, e_tupl_ref, e_newT, e_newF, e_run_nm, e_run_tp, e_runs_nil, e_runs_cons, e_tru_bl, e_tru_int, e_tru_str, e_tru_lst, e_tru_tup, e_ty_str, e_ty_lst, e_ty_ref, e_append, e_insert, e_popAt, e_pop0, e_join, e_seqI_val, e_cut_str, e_cut_tup, e_cut_lst, e_cut_fz, e_cut_ref]
      refine ⟨⟨_, gp⟩, _, gp, by rw [List.length_map, List.length_take]; have := sizeLine_eq; omega, hN _ _ ⟨⟨_, _, _, _, rfl⟩, ?_, fun b u e => ?_⟩⟩
      · rw [put_same, List.take_add_one, hz, List.map_append]; rfl
      · have : b ≠ p := fun z => by subst z; rw [hp] at e; cases e
        rw [put_ne this]; exact old b u e
    simp only [b_heap_text_3, b_heap_text_4, mSeq, mIfS, mAsg, mRet, mRetN, mDrop, mTest, mOp, mC, mVar, mSetI, mNext, mCB, mCons, mNil, mAndT, mOrT, mNotT, mTruT, mIf, mNeg, mOr, mAnd, mNot, mLst, mTup, mBM, mBM0, mPar, mCall, mCallK, mLstRg1, mTupRg1, mRng1, mRng2, mEnum, mZipT, mFor, mSl, mNoPart, mPart, mLc, wipeM, List.set_cons_zero, List.set_cons_succ, startM, List.map_cons, List.map_nil, List.cons_append, List.nil_append, List.length_cons, List.length_nil, List.replicate, List.getElem?_cons_zero, List.getElem?_cons_succ, Option.some.injEq, Nat.reduceSub, Nat.reduceAdd, true_and, exists_eq_left, exists_eq_left', e_ix_tup, e_ix_lst, e_ix_fz, e_ix_ref, e_lo_lst, e_lo_fz, e_lo_ref, e_so_lst, e_so_fz, e_so_tup, e_so_ref, e_hd_lst, e_hd_ref, e_add_int, e_add_str, e_add_tup, e_add_lst, e_sub_int, e_mul_int, e_mul_lst, e_mul_tup, e_mod_int, e_fdv_int, e_pow_int, e_lt_int, e_le_int, e_gt_int, e_ge_int, e_eq_int, e_ne_int, e_eq_str, e_ne_str, e_isN, e_notN, e_isN_non, e_isN_int, e_isN_tup, e_isN_str, e_isN_ref, e_isN_lst, e_abs, e_max2, e_min2, e_int_int, e_int_bl, e_str_int, e_str_str, e_str_non, e_len_str, e_len_tup, e_len_lst, e_len_fz, e_len_ref, e_list_tup, e_list_lst, e_list_fz, e_list_ref, e_tupl_tup, e_tupl_lst, e_tupl_ref, e_newT, e_newF, e_run_nm, e_run_tp, e_runs_nil, e_runs_cons, e_tru_bl, e_tru_int, e_tru_str, e_tru_lst, e_tru_tup, e_ty_str, e_ty_lst, e_ty_ref, e_append, e_insert, e_popAt, e_pop0, e_join, e_seqI_val, e_cut_str, e_cut_tup, e_cut_lst, e_cut_fz, e_cut_ref]
    rcases hs with rfl | ⟨rw', rfl, hr⟩
    · simp only [Bool.not_true, mSeq, mIfS, mAsg, mRet, mRetN, mDrop, mTest, mOp, mC, mVar, mSetI, mNext, mCB, mCons, mNil, mAndT, mOrT, mNotT, mTruT, mIf, mNeg, mOr, mAnd, mNot, mLst, mTup, mBM, mBM0, mPar, mCall, mCallK, mLstRg1, mTupRg1, mRng1, mRng2, mEnum, mZipT, mFor, mSl, mNoPart, mPart, mLc, wipeM, List.set_cons_zero, List.set_cons_succ, startM, List.map_cons, List.map_nil, List.cons_append, List.nil_append, List.length_cons, List.length_nil, List.replicate, List.getElem?_cons_zero, List.getElem?_cons_succ, Option.some.injEq, Nat.reduceSub, Nat.reduceAdd, true_and, exists_eq_left, exists_eq_left', e_ix_tup, e_ix_lst, e_ix_fz, e_ix_ref, e_lo_lst, e_lo_fz, e_lo_ref, e_so_lst, e_so_fz, e_so_tup, e_so_ref, e_hd_lst, e_hd_ref, e_add_int, e_add_str, e_add_tup, e_add_lst, e_sub_int, e_mul_int, e_mul_lst, e_mul_tup, e_mod_int, e_fdv_int, e_pow_int, e_lt_int, e_le_int, e_gt_int, e_ge_int, e_eq_int, e_ne_int, e_eq_str, e_ne_str, e_isN, e_notN, e_isN_non, e_isN_int, e_isN_tup, e_isN_str, e_isN_ref, e_isN_lst, e_abs, e_max2, e_min2, e_int_int, e_int_bl, e_str_int, e_str_str, e_str_non, e_len_str, e_len_tup, e_len_lst, e_len_fz, e_len_ref, e_list_tup, e_list_lst, e_list_fz, e_list_ref, e_tupl_tup, e_tupl_lst, e_tupl_ref, e_newT, e_newF, e_run_nm, e_run_tp, e_runs_nil, e_runs_cons, e_tru_bl, e_tru_int, e_tru_str, e_tru_lst, e_tru_tup, e_ty_str, e_ty_lst, e_ty_ref, e_append, e_insert, e_popAt, e_pop0, e_join, e_seqI_val, e_cut_str, e_cut_tup, e_cut_lst, e_cut_fz, e_cut_ref]
      exact app _ _ _ rfl rfl
    · simp only [Bool.not_false, b_heap_text_5, mSeq, mIfS, mAsg, mRet, mRetN, mDrop, mTest, mOp, mC, mVar, mSetI, mNext, mCB, mCons, mNil, mAndT, mOrT, mNotT, mTruT, mIf, mNeg, mOr, mAnd, mNot, mLst, mTup, mBM, mBM0, mPar, mCall, mCallK, mLstRg1, mTupRg1, mRng1, mRng2, mEnum, mZipT, mFor, mSl, mNoPart, mPart, mLc, wipeM, List.set_cons_zero, List.set_cons_succ, startM, List.map_cons, List.map_nil, List.cons_append, List.nil_append, List.length_cons, List.length_nil, List.replicate, List.getElem?_cons_zero, List.getElem?_cons_succ, Option.some.injEq, Nat.reduceSub, Nat.reduceAdd, true_and, exists_eq_left, exists_eq_left', e_ix_tup, e_ix_lst, e_ix_fz, e_ix_ref, e_lo_lst, e_lo_fz, e_lo_ref, e_so_lst, e_so_fz, e_so_tup, e_so_ref, e_hd_lst, e_hd_ref, e_add_int, e_add_str, e_add_tup, e_add_lst, e_sub_int, e_mul_int, e_mul_lst, e_mul_tup, e_mod_int, e_fdv_int, e_pow_int, e_lt_int, e_le_int, e_gt_int, e_ge_int, e_eq_int, e_ne_int, e_eq_str, e_ne_str, e_isN, e_notN, e_isN_non, e_isN_int, e_isN_tup, e_isN_str, e_isN_ref, e_isN_lst, e_abs, e_max2, e_min2, e_int_int, e_int_bl, e_str_int, e_str_str, e_str_non, e_len_str, e_len_tup, e_len_lst, e_len_fz, e_len_ref, e_list_tup, e_list_lst, e_list_fz, e_list_ref, e_tupl_tup, e_tupl_lst, e_tupl_ref, e_newT, e_newF, e_run_nm, e_run_tp, e_runs_nil, e_runs_cons, e_tru_bl, e_tru_int, e_tru_str, e_tru_lst, e_tru_tup, e_ty_str, e_ty_lst, e_ty_ref, e_append, e_insert, e_popAt, e_pop0, e_join, e_seqI_val, e_cut_str, e_cut_tup, e_cut_lst, e_cut_fz, e_cut_ref]
      obtain ⟨w, hw2, _, hw3⟩ := at_in (xs := outs) (i := (i : Nat)) (by omega) (by omega)
      have ew : w = outs[i] := by
        rw [Int.toNat_natCast, hout] at hw3; exact (Option.some.inj hw3).symm
      subst ew
      obtain ⟨j, ej, j0, j1⟩ := ho
      refine ⟨_, rfl, _, hw2, ?_⟩
      have wo : Wr outs[i] := wr_out ⟨j, ej, j0, j1⟩
      have wrow : ∀ x ∈ rw', Wr x := fun x hx => wr_ref (by omega) (hr.2 x hx)
      rw [ej]
      simp only [b_heap_text_6, mSeq, mIfS, mAsg, mRet, mRetN, mDrop, mTest, mOp, mC, mVar, mSetI, mNext, mCB, mCons, mNil, mAndT, mOrT, mNotT, mTruT, mIf, mNeg, mOr, mAnd, mNot, mLst, mTup, mBM, mBM0, mPar, mCall, mCallK, mLstRg1, mTupRg1, mRng1, mRng2, mEnum, mZipT, mFor, mSl, mNoPart, mPart, mLc, wipeM, List.set_cons_zero, List.set_cons_succ, startM, List.map_cons, List.map_nil, List.cons_append, List.nil_append, List.length_cons, List.length_nil, List.replicate, List.getElem?_cons_zero, List.getElem?_cons_succ, Option.some.injEq, Nat.reduceSub, Nat.reduceAdd, true_and, exists_eq_left, exists_eq_left', e_ix_tup, e_ix_lst, e_ix_fz, e_ix_ref, e_lo_lst, e_lo_fz, e_lo_ref, e_so_lst, e_so_fz, e_so_tup, e_so_ref, e_hd_lst, e_hd_ref, e_add_int, e_add_str, e_add_tup, e_add_lst, e_sub_int, e_mul_int, e_mul_lst, e_mul_tup, e_mod_int, e_fdv_int, e_pow_int, e_lt_int, e_le_int, e_gt_int, e_ge_int, e_eq_int, e_ne_int, e_eq_str, e_ne_str, e_isN, e_notN, e_isN_non, e_isN_int, e_isN_tup, e_isN_str, e_isN_ref, e_isN_lst, e_abs, e_max2, e_min2, e_int_int, e_int_bl, e_str_int, e_str_str, e_str_non, e_len_str, e_len_tup, e_len_lst, e_len_fz, e_len_ref, e_list_tup, e_list_lst, e_list_fz, e_list_ref, e_tupl_tup, e_tupl_lst, e_tupl_ref, e_newT, e_newF, e_run_nm, e_run_tp, e_runs_nil, e_runs_cons, e_tru_bl, e_tru_int, e_tru_str, e_tru_lst, e_tru_tup, e_ty_str, e_ty_lst, e_ty_ref, e_append, e_insert, e_popAt, e_pop0, e_join, e_seqI_val, e_cut_str, e_cut_tup, e_cut_lst, e_cut_fz, e_cut_ref]
      refine ⟨int_log j0 (by omega), ?_⟩
      refine loop_ind (fun k τ G2 => G2 = G' ∧ ∃ v5, τ = [some (.tup [.tup slots, .tup outs]), some (.ref p), some (.int (i : Nat)), some (.tup rw'), some (.str (lineP outs[i] (rw'.take k))), v5]) ?_ ?_ ⟨rfl, _, by rw [List.take_zero, ej]; rfl⟩
      · rintro k x τ G2 N2 hx ⟨rfl, v5, rfl⟩ hN2
        refine ⟨trivial, ?_⟩
        have hk := (List.getElem?_eq_some_iff.mp hx).1
        have hln := lineP_len wo (l := rw'.take k) fun y hy => wrow y (List.mem_of_mem_take hy)
        rw [List.length_take] at hln
        have hrl := hr.1
        have hmx := wrow x (List.mem_of_getElem? hx)
        have hm1 := hmx.1
        have hsz := sizeLine_eq
        simp only [b_heap_text_7, mSeq, mIfS, mAsg, mRet, mRetN, mDrop, mTest, mOp, mC, mVar, mSetI, mNext, mCB, mCons, mNil, mAndT, mOrT, mNotT, mTruT, mIf, mNeg, mOr, mAnd, mNot, mLst, mTup, mBM, mBM0, mPar, mCall, mCallK, mLstRg1, mTupRg1, mRng1, mRng2, mEnum, mZipT, mFor, mSl, mNoPart, mPart, mLc, wipeM, List.set_cons_zero, List.set_cons_succ, startM, List.map_cons, List.map_nil, List.cons_append, List.nil_append, List.length_cons, List.length_nil, List.replicate, List.getElem?_cons_zero, List.getElem?_cons_succ, Option.some.injEq, Nat.reduceSub, Nat.reduceAdd, true_and, exists_eq_left, exists_eq_left', e_ix_tup, e_ix_lst, e_ix_fz, e_ix_ref, e_lo_lst, e_lo_fz, e_lo_ref, e_so_lst, e_so_fz, e_so_tup, e_so_ref, e_hd_lst, e_hd_ref, e_add_int, e_add_str, e_add_tup, e_add_lst, e_sub_int, e_mul_int, e_mul_lst, e_mul_tup, e_mod_int, e_fdv_int, e_pow_int, e_lt_int, e_le_int, e_gt_int, e_ge_int, e_eq_int, e_ne_int, e_eq_str, e_ne_str, e_isN, e_notN, e_isN_non, e_isN_int, e_isN_tup, e_isN_str, e_isN_ref, e_isN_lst, e_abs, e_max2, e_min2, e_int_int, e_int_bl, e_str_int, e_str_str, e_str_non, e_len_str, e_len_tup, e_len_lst, e_len_fz, e_len_ref, e_list_tup, e_list_lst, e_list_fz, e_list_ref, e_tupl_tup, e_tupl_lst, e_tupl_ref, e_newT, e_newF, e_run_nm, e_run_tp, e_runs_nil, e_runs_cons, e_tru_bl, e_tru_int, e_tru_str, e_tru_lst, e_tru_tup, e_ty_str, e_ty_lst, e_ty_ref, e_append, e_insert, e_popAt, e_pop0, e_join, e_seqI_val, e_cut_str, e_cut_tup, e_cut_lst, e_cut_fz, e_cut_ref]
        refine ⟨by rw [sp_len]; omega, ?_⟩
        have nxt : N2 [some (.tup [.tup slots, .tup outs]), some (.ref p), some (.int (i : Nat)), some (.tup rw'), some (.str (lineP outs[i] (rw'.take k) ++ " " ++ cell x)), some x] G2 := hN2 _ _ ⟨rfl, _, by rw [take_next' hx, lineP_step]⟩
        rcases hr.2 x (List.mem_of_getElem? hx) with rfl | ⟨y, rfl, y0, y1⟩
        · simp only [Bool.not_true, mSeq, mIfS, mAsg, mRet, mRetN, mDrop, mTest, mOp, mC, mVar, mSetI, mNext, mCB, mCons, mNil, mAndT, mOrT, mNotT, mTruT, mIf, mNeg, mOr, mAnd, mNot, mLst, mTup, mBM, mBM0, mPar, mCall, mCallK, mLstRg1, mTupRg1, mRng1, mRng2, mEnum, mZipT, mFor, mSl, mNoPart, mPart, mLc, wipeM, List.set_cons_zero, List.set_cons_succ, startM, List.map_cons, List.map_nil, List.cons_append, List.nil_append, List.length_cons, List.length_nil, List.replicate, List.getElem?_cons_zero, List.getElem?_cons_succ, Option.some.injEq, Nat.reduceSub, Nat.reduceAdd, true_and, exists_eq_left, exists_eq_left', e_ix_tup, e_ix_lst, e_ix_fz, e_ix_ref, e_lo_lst, e_lo_fz, e_lo_ref, e_so_lst, e_so_fz, e_so_tup, e_so_ref, e_hd_lst, e_hd_ref, e_add_int, e_add_str, e_add_tup, e_add_lst, e_sub_int, e_mul_int, e_mul_lst, e_mul_tup, e_mod_int, e_fdv_int, e_pow_int, e_lt_int, e_le_int, e_gt_int, e_ge_int, e_eq_int, e_ne_int, e_eq_str, e_ne_str, e_isN, e_notN, e_isN_non, e_isN_int, e_isN_tup, e_isN_str, e_isN_ref, e_isN_lst, e_abs, e_max2, e_min2, e_int_int, e_int_bl, e_str_int, e_str_str, e_str_non, e_len_str, e_len_tup, e_len_lst, e_len_fz, e_len_ref, e_list_tup, e_list_lst, e_list_fz, e_list_ref, e_tupl_tup, e_tupl_lst, e_tupl_ref, e_newT, e_newF, e_run_nm, e_run_tp, e_runs_nil, e_runs_cons, e_tru_bl, e_tru_int, e_tru_str, e_tru_lst, e_tru_tup, e_ty_str, e_ty_lst, e_ty_ref, e_append, e_insert, e_popAt, e_pop0, e_join, e_seqI_val, e_cut_str, e_cut_tup, e_cut_lst, e_cut_fz, e_cut_ref]
          refine ⟨by decide, _, _, rfl, rfl, ?_⟩
          simp only [mSeq, mIfS, mAsg, mRet, mRetN, mDrop, mTest, mOp, mC, mVar, mSetI, mNext, mCB, mCons, mNil, mAndT, mOrT, mNotT, mTruT, mIf, mNeg, mOr, mAnd, mNot, mLst, mTup, mBM, mBM0, mPar, mCall, mCallK, mLstRg1, mTupRg1, mRng1, mRng2, mEnum, mZipT, mFor, mSl, mNoPart, mPart, mLc, wipeM, List.set_cons_zero, List.set_cons_succ, startM, List.map_cons, List.map_nil, List.cons_append, List.nil_append, List.length_cons, List.length_nil, List.replicate, List.getElem?_cons_zero, List.getElem?_cons_succ, Option.some.injEq, Nat.reduceSub, Nat.reduceAdd, true_and, exists_eq_left, exists_eq_left', e_ix_tup, e_ix_lst, e_ix_fz, e_ix_ref, e_lo_lst, e_lo_fz, e_lo_ref, e_so_lst, e_so_fz, e_so_tup, e_so_ref, e_hd_lst, e_hd_ref, e_add_int, e_add_str, e_add_tup, e_add_lst, e_sub_int, e_mul_int, e_mul_lst, e_mul_tup, e_mod_int, e_fdv_int, e_pow_int, e_lt_int, e_le_int, e_gt_int, e_ge_int, e_eq_int, e_ne_int, e_eq_str, e_ne_str, e_isN, e_notN, e_isN_non, e_isN_int, e_isN_tup, e_isN_str, e_isN_ref, e_isN_lst, e_abs, e_max2, e_min2, e_int_int, e_int_bl, e_str_int, e_str_str, e_str_non, e_len_str, e_len_tup, e_len_lst, e_len_fz, e_len_ref, e_list_tup, e_list_lst, e_list_fz, e_list_ref, e_tupl_tup, e_tupl_lst, e_tupl_ref, e_newT, e_newF, e_run_nm, e_run_tp, e_runs_nil, e_runs_cons, e_tru_bl, e_tru_int, e_tru_str, e_tru_lst, e_tru_tup, e_ty_str, e_ty_lst, e_ty_ref, e_append, e_insert, e_popAt, e_pop0, e_join, e_seqI_val, e_cut_str, e_cut_tup, e_cut_lst, e_cut_fz, e_cut_ref]
          exact ⟨by rw [len_app, sp_len]; show _ + (("-" : Str)).length ≤ _; rw [show (("-" : Str)).length = 1 by decide]; omega, nxt⟩
        · simp only [Bool.not_false, mSeq, mIfS, mAsg, mRet, mRetN, mDrop, mTest, mOp, mC, mVar, mSetI, mNext, mCB, mCons, mNil, mAndT, mOrT, mNotT, mTruT, mIf, mNeg, mOr, mAnd, mNot, mLst, mTup, mBM, mBM0, mPar, mCall, mCallK, mLstRg1, mTupRg1, mRng1, mRng2, mEnum, mZipT, mFor, mSl, mNoPart, mPart, mLc, wipeM, List.set_cons_zero, List.set_cons_succ, startM, List.map_cons, List.map_nil, List.cons_append, List.nil_append, List.length_cons, List.length_nil, List.replicate, List.getElem?_cons_zero, List.getElem?_cons_succ, Option.some.injEq, Nat.reduceSub, Nat.reduceAdd, true_and, exists_eq_left, exists_eq_left', e_ix_tup, e_ix_lst, e_ix_fz, e_ix_ref, e_lo_lst, e_lo_fz, e_lo_ref, e_so_lst, e_so_fz, e_so_tup, e_so_ref, e_hd_lst, e_hd_ref, e_add_int, e_add_str, e_add_tup, e_add_lst, e_sub_int, e_mul_int, e_mul_lst, e_mul_tup, e_mod_int, e_fdv_int, e_pow_int, e_lt_int, e_le_int, e_gt_int, e_ge_int, e_eq_int, e_ne_int, e_eq_str, e_ne_str, e_isN, e_notN, e_isN_non, e_isN_int, e_isN_tup, e_isN_str, e_isN_ref, e_isN_lst, e_abs, e_max2, e_min2, e_int_int, e_int_bl, e_str_int, e_str_str, e_str_non, e_len_str, e_len_tup, e_len_lst, e_len_fz, e_len_ref, e_list_tup, e_list_lst, e_list_fz, e_list_ref, e_tupl_tup, e_tupl_lst, e_tupl_ref, e_newT, e_newF, e_run_nm, e_run_tp, e_runs_nil, e_runs_cons, e_tru_bl, e_tru_int, e_tru_str, e_tru_lst, e_tru_tup, e_ty_str, e_ty_lst, e_ty_ref, e_append, e_insert, e_popAt, e_pop0, e_join, e_seqI_val, e_cut_str, e_cut_tup, e_cut_lst, e_cut_fz, e_cut_ref]
          refine ⟨int_log y0 (by omega), by decide, _, _, rfl, rfl, ?_⟩
          simp only [mSeq, mIfS, mAsg, mRet, mRetN, mDrop, mTest, mOp, mC, mVar, mSetI, mNext, mCB, mCons, mNil, mAndT, mOrT, mNotT, mTruT, mIf, mNeg, mOr, mAnd, mNot, mLst, mTup, mBM, mBM0, mPar, mCall, mCallK, mLstRg1, mTupRg1, mRng1, mRng2, mEnum, mZipT, mFor, mSl, mNoPart, mPart, mLc, wipeM, List.set_cons_zero, List.set_cons_succ, startM, List.map_cons, List.map_nil, List.cons_append, List.nil_append, List.length_cons, List.length_nil, List.replicate, List.getElem?_cons_zero, List.getElem?_cons_succ, Option.some.injEq, Nat.reduceSub, Nat.reduceAdd, true_and, exists_eq_left, exists_eq_left', e_ix_tup, e_ix_lst, e_ix_fz, e_ix_ref, e_lo_lst, e_lo_fz, e_lo_ref, e_so_lst, e_so_fz, e_so_tup, e_so_ref, e_hd_lst, e_hd_ref, e_add_int, e_add_str, e_add_tup, e_add_lst, e_sub_int, e_mul_int, e_mul_lst, e_mul_tup, e_mod_int, e_fdv_int, e_pow_int, e_lt_int, e_le_int, e_gt_int, e_ge_int, e_eq_int, e_ne_int, e_eq_str, e_ne_str, e_isN, e_notN, e_isN_non, e_isN_int, e_isN_tup, e_isN_str, e_isN_ref, e_isN_lst, e_abs, e_max2, e_min2, e_int_int, e_int_bl, e_str_int, e_str_str, e_str_non, e_len_str, e_len_tup, e_len_lst, e_len_fz, e_len_ref, e_list_tup, e_list_lst, e_list_fz, e_list_ref, e_tupl_tup, e_tupl_lst, e_tupl_ref, e_newT, e_newF, e_run_nm, e_run_tp, e_runs_nil, e_runs_cons, e_tru_bl, e_tru_int, e_tru_str, e_tru_lst, e_tru_tup, e_ty_str, e_ty_lst, e_ty_ref, e_append, e_insert, e_popAt, e_pop0, e_join, e_seqI_val, e_cut_str, e_cut_tup, e_cut_lst, e_cut_fz, e_cut_ref]
          have hm1' : (toString y : Str).length ≤ 31 := hm1
          exact ⟨by rw [len_app, sp_len]; omega, nxt⟩
      · rintro τ G2 ⟨rfl, v5, rfl⟩
        refine ⟨trivial, ?_⟩
        exact app _ _ _ rfl (by rw [List.take_length, lineP_all])
  · rintro τ G' ⟨⟨v2, v3, v4, v5, rfl⟩, gp, old⟩
    refine ⟨trivial, ?_⟩
    rw [enumD_len, List.take_of_length_le (by omega)] at gp
    simp only [b_heap_text_9, mSeq, mIfS, mAsg, mRet, mRetN, mDrop, mTest, mOp, mC, mVar, mSetI, mNext, mCB, mCons, mNil, mAndT, mOrT, mNotT, mTruT, mIf, mNeg, mOr, mAnd, mNot, mLst, mTup, mBM, mBM0, mPar, mCall, mCallK, mLstRg1, mTupRg1, mRng1, mRng2, mEnum, mZipT, mFor, mSl, mNoPart, mPart, mLc, wipeM, List.set_cons_zero, List.set_cons_succ, startM, List.map_cons, List.map_nil, List.cons_append, List.nil_append, List.length_cons, List.length_nil, List.replicate, List.getElem?_cons_zero, List.getElem?_cons_succ, Option.some.injEq, Nat.reduceSub, Nat.reduceAdd, true_and, exists_eq_left, exists_eq_left', e_ix_tup, e_ix_lst, e_ix_fz, e_ix_ref, e_lo_lst, e_lo_fz, e_lo_ref, e_so_lst, e_so_fz, e_so_tup, e_so_ref, e_hd_lst, e_hd_ref, e_add_int, e_add_str, e_add_tup, e_add_lst, e_sub_int, e_mul_int, e_mul_lst, e_mul_tup, e_mod_int, e_fdv_int, e_pow_int, e_lt_int, e_le_int, e_gt_int, e_ge_int, e_eq_int, e_ne_int, e_eq_str, e_ne_str, e_isN, e_notN, e_isN_non, e_isN_int, e_isN_tup, e_isN_str, e_isN_ref, e_isN_lst, e_abs, e_max2, e_min2, e_int_int, e_int_bl, e_str_int, e_str_str, e_str_non, e_len_str, e_len_tup, e_len_lst, e_len_fz, e_len_ref, e_list_tup, e_list_lst, e_list_fz, e_list_ref, e_tupl_tup, e_tupl_lst, e_tupl_ref, e_newT, e_newF, e_run_nm, e_run_tp, e_runs_nil, e_runs_cons, e_tru_bl, e_tru_int, e_tru_str, e_tru_lst, e_tru_tup, e_ty_str, e_ty_lst, e_ty_ref, e_append, e_insert, e_popAt, e_pop0, e_join, e_seqI_val, e_cut_str, e_cut_tup, e_cut_lst, e_cut_fz, e_cut_ref]
    exact ⟨_, _, gp, strsOf_map _, (big_join h1 (by omega)).2, less_of old hq⟩
  · have : b ≠ p := fun z => by subst z; rw [hp] at e; cases e
    rw [put_ne this]; exact e
end Q82

set_option maxRecDepth 100000
namespace Q82
open PySem PySem.Spec L2 ML
open PyProof.Rows hiding St
/-! ### a page and its words -/
def pieces (x o : D) : List Str := match x with
  | .tup row => cell o :: row.map cell
  | _ => ["free"]
theorem line_pieces (x o : D) : lineT x o = Txt.join " " (pieces x o) := by
  cases x <;> first | rfl | (show "free" = Txt.join " " ["free"]; rw [join_eq]; rfl)
/-- a sign of no word -/
def NoW (c : Nat) : Prop := c ≠ 45 ∧ (c < 48 ∨ 57 < c) ∧ c < 97
theorem now_cell {c : Nat} (h : NoW c) (x : D) : c ∉ (cell x).cps.toList := by
  have dash : c ∉ (("-" : Str)).cps.toList := by
    rw [show (("-" : Str)).cps.toList = [45] by decide]
    intro z
    exact h.1 (List.mem_singleton.mp z)
  cases x with
  | int i => exact int_text_free' c ⟨h.1, h.2.1⟩ i
  | _ => exact dash
theorem now_free {c : Nat} (h : NoW c) : c ∉ (("free" : Str)).cps.toList := by
  rw [show (("free" : Str)).cps.toList = [102, 114, 101, 101] by decide]
  have := h.2.2
  simp only [List.mem_cons, List.not_mem_nil, or_false]
  omega
theorem now_pieces {c : Nat} (h : NoW c) (x o : D) : ∀ p ∈ pieces x o, c ∉ p.cps.toList := by
  intro p hp
  cases x with
  | tup row =>
    rcases List.mem_cons.mp hp with rfl | hp
    · exact now_cell h o
    · obtain ⟨y, _, rfl⟩ := List.mem_map.mp hp
      exact now_cell h y
  | _ => rw [List.mem_singleton.mp hp]; exact now_free h
theorem mem_joinL {c : Nat} {S : List Nat} : ∀ {ps : List (List Nat)}, c ∈ TL.joinL S ps → c ∈ S ∨ ∃ p ∈ ps, c ∈ p
  | [], h => nomatch h
  | [p], h => .inr ⟨p, List.mem_singleton.mpr rfl, h⟩
  | p :: q :: r, h => by
    rcases List.mem_append.mp (show c ∈ p ++ (S ++ TL.joinL S (q :: r)) from h) with h | h
    · exact .inr ⟨p, List.mem_cons_self, h⟩
    · rcases List.mem_append.mp h with h | h
      · exact .inl h
      · rcases mem_joinL h with h | ⟨p', hp', h⟩
        · exact .inl h
        · exact .inr ⟨p', List.mem_cons_of_mem _ hp', h⟩
theorem now_line (x o : D) : 10 ∉ (lineT x o).cps.toList := by
  intro h
  rw [line_pieces, join_eq] at h
  have h2 : 10 ∈ TL.joinL (TL.tl " ") ((pieces x o).map TL.tl) := by rw [← TL.tl_join]; exact h
  rcases mem_joinL h2 with z | ⟨p, hp, z⟩
  · rw [show TL.tl " " = [32] by decide] at z
    exact absurd (List.mem_singleton.mp z) (by decide)
  · obtain ⟨y, hy, rfl⟩ := List.mem_map.mp hp
    exact now_pieces ⟨by decide, by decide, by decide⟩ x o y hy z
theorem split_line (x o : D) : Txt.split (lineT x o) " " = pieces x o := by
  rw [line_pieces]
  refine TL.split_join (s := 32) (S := []) (by decide) (by decide +kernel) ?_ fun p hp => now_pieces ⟨by decide, by decide, by decide⟩ x o p hp
  cases x <;> exact fun z => nomatch z
theorem split_page {slots outs : List D} (hl : slots.length = outs.length) (h : slots ≠ []) : Txt.split (heapT slots outs) "\n" = List.zipWith lineT slots outs := by
  refine TL.split_join (s := 10) (S := []) (by decide) (by decide +kernel) ?_ fun p hp => ?_
  · intro z
    have := congrArg List.length z
    rw [List.length_zipWith, hl, Nat.min_self, List.length_nil, ← hl] at this
    exact h (List.length_eq_zero_iff.mp this)
  · obtain ⟨x, y, _, _, rfl⟩ := mem_zip hp
    exact now_line x y
theorem line_pos {x o : D} (ho : OutOk o) : 0 < (lineT x o).length := by
  obtain ⟨i, rfl, _⟩ := ho
  cases x with
  | tup row => exact join_pos (int_pos i)
  | _ => show 0 < (("free" : Str)).length; decide
theorem page_pos {slots outs : List D} (hh : HeapOk slots outs) (h : slots ≠ []) : heapT slots outs ≠ "" := by
  cases slots with
  | nil => exact absurd rfl h
  | cons x xs =>
    cases outs with
    | nil => have := hh.1; simp at this
    | cons o os =>
      have hp : 0 < (heapT (x :: xs) (o :: os)).length := by
        show 0 < (Txt.join "\n" (lineT x o :: List.zipWith lineT xs os)).length
        exact join_pos (line_pos (hh.2.2.2 o List.mem_cons_self))
      intro z
      rw [z] at hp
      exact absurd hp (by decide)
theorem law_parse_heap (x0 : D) (G : Gp) (q : MK) (h : p_parse_heap x0 G q) : b_parse_heap { nx := fun _ G' => less q .non G', rt := less q } (startM ["text", "lines", "slots", "outside", "line", "content", "first", "rest", "is_digit"] [x0]) G := by
  obtain ⟨slots, outs, rfl, hh, hc, hq⟩ := h
  have hlen := hh.1
  have h40 := hh.2.1
  have hss := sizeLine_eq
  have main : b_parse_heap_2 { nx := fun x G' => less q .non G', rt := less q } [some (.str (heapT slots outs)), some (.lst ((List.zipWith lineT slots outs).map D.str)), none, none, none, none, none, none, none] G := by
    simp only [b_parse_heap_2, b_parse_heap_3, mSeq, mIfS, mAsg, mRet, mRetN, mDrop, mTest, mOp, mC, mVar, mSetI, mNext, mCB, mCons, mNil, mAndT, mOrT, mNotT, mTruT, mIf, mNeg, mOr, mAnd, mNot, mLst, mTup, mBM, mBM0, mPar, mCall, mCallK, mLstRg1, mTupRg1, mRng1, mRng2, mEnum, mZipT, mFor, mSl, mNoPart, mPart, mLc, wipeM, List.set_cons_zero, List.set_cons_succ, startM, List.map_cons, List.map_nil, List.cons_append, List.nil_append, List.length_cons, List.length_nil, List.replicate, List.getElem?_cons_zero, List.getElem?_cons_succ, Option.some.injEq, Nat.reduceSub, Nat.reduceAdd, true_and, exists_eq_left, exists_eq_left', e_ix_tup, e_ix_lst, e_ix_fz, e_ix_ref, e_lo_lst, e_lo_fz, e_lo_ref, e_so_lst, e_so_fz, e_so_tup, e_so_ref, e_hd_lst, e_hd_ref, e_add_int, e_add_str, e_add_tup, e_add_lst, e_sub_int, e_mul_int, e_mul_lst, e_mul_tup, e_mod_int, e_fdv_int, e_pow_int, e_lt_int, e_le_int, e_gt_int, e_ge_int, e_eq_int, e_ne_int, e_eq_str, e_ne_str, e_isN, e_notN, e_isN_non, e_isN_int, e_isN_tup, e_isN_str, e_isN_ref, e_isN_lst, e_abs, e_max2, e_min2, e_int_int, e_int_bl, e_str_int, e_str_str, e_str_non, e_len_str, e_len_tup, e_len_lst, e_len_fz, e_len_ref, e_list_tup, e_list_lst, e_list_fz, e_list_ref, e_tupl_tup, e_tupl_lst, e_tupl_ref, e_newT, e_newF, e_run_nm, e_run_tp, e_runs_nil, e_runs_cons, e_tru_bl, e_tru_int, e_tru_str, e_tru_lst, e_tru_tup, e_ty_str, e_ty_lst, e_ty_ref, e_append, e_insert, e_popAt, e_pop0, e_join, e_seqI_val, e_cut_str, e_cut_tup, e_cut_lst, e_cut_fz, e_cut_ref, mChain, mAugS, mStar, mEnumK, e_isi, e_isi2, e_all, e_intS_str, e_intS_int, e_inS, e_split, e_ix_str, e_iadd, e_tru_non]
    refine ⟨by decide, fun p1 hp1 => ⟨by decide, fun p2 hp2 => ?_⟩⟩
    have n12 : p1 ≠ p2 := fun z => by subst z; rw [put_same] at hp2; cases hp2
    have hp2' : G p2 = none := by rwa [put_ne n12.symm] at hp2
    simp only [b_parse_heap_4, mSeq, mIfS, mAsg, mRet, mRetN, mDrop, mTest, mOp, mC, mVar, mSetI, mNext, mCB, mCons, mNil, mAndT, mOrT, mNotT, mTruT, mIf, mNeg, mOr, mAnd, mNot, mLst, mTup, mBM, mBM0, mPar, mCall, mCallK, mLstRg1, mTupRg1, mRng1, mRng2, mEnum, mZipT, mFor, mSl, mNoPart, mPart, mLc, wipeM, List.set_cons_zero, List.set_cons_succ, startM, List.map_cons, List.map_nil, List.cons_append, List.nil_append, List.length_cons, List.length_nil, List.replicate, List.getElem?_cons_zero, List.getElem?_cons_succ, Option.some.injEq, Nat.reduceSub, Nat.reduceAdd, true_and, exists_eq_left, exists_eq_left', e_ix_tup, e_ix_lst, e_ix_fz, e_ix_ref, e_lo_lst, e_lo_fz, e_lo_ref, e_so_lst, e_so_fz, e_so_tup, e_so_ref, e_hd_lst, e_hd_ref, e_add_int, e_add_str, e_add_tup, e_add_lst, e_sub_int, e_mul_int, e_mul_lst, e_mul_tup, e_mod_int, e_fdv_int, e_pow_int, e_lt_int, e_le_int, e_gt_int, e_ge_int, e_eq_int, e_ne_int, e_eq_str, e_ne_str, e_isN, e_notN, e_isN_non, e_isN_int, e_isN_tup, e_isN_str, e_isN_ref, e_isN_lst, e_abs, e_max2, e_min2, e_int_int, e_int_bl, e_str_int, e_str_str, e_str_non, e_len_str, e_len_tup, e_len_lst, e_len_fz, e_len_ref, e_list_tup, e_list_lst, e_list_fz, e_list_ref, e_tupl_tup, e_tupl_lst, e_tupl_ref, e_newT, e_newF, e_run_nm, e_run_tp, e_runs_nil, e_runs_cons, e_tru_bl, e_tru_int, e_tru_str, e_tru_lst, e_tru_tup, e_ty_str, e_ty_lst, e_ty_ref, e_append, e_insert, e_popAt, e_pop0, e_join, e_seqI_val, e_cut_str, e_cut_tup, e_cut_lst, e_cut_fz, e_cut_ref, mChain, mAugS, mStar, mEnumK, e_isi, e_isi2, e_all, e_intS_str, e_intS_int, e_inS, e_split, e_ix_str, e_iadd, e_tru_non]
    refine loop_ind (fun i τ G' => (∃ v4 v5 v6 v7 v8, τ = [some (.str (heapT slots outs)), some (.lst ((List.zipWith lineT slots outs).map D.str)), some (.ref p1), some (.ref p2), v4, v5, v6, v7, v8]) ∧ G' p1 = some (.lst ((slots.map thaw).take i)) ∧ G' p2 = some (.lst (outs.take i)) ∧ ∀ c u, G c = some u → G' c = some u) ?_ ?_ ⟨⟨_, _, _, _, _, rfl⟩, by rw [put_ne n12, put_same, List.take_zero], by rw [put_same, List.take_zero], fun c u e => ?_⟩
    · rintro i w τ G' N hw ⟨⟨v4, v5, v6, v7, v8, rfl⟩, g1, g2, old⟩ hN
      refine ⟨trivial, ?_⟩
      obtain ⟨w, hw', rfl⟩ := enumD_get hw
      rw [List.getElem?_map, List.getElem?_zipWith] at hw'
      cases hx : slots[i]? with
      | none => rw [hx] at hw'; cases hw'
      | some x =>
        cases ho : outs[i]? with
        | none => rw [hx, ho] at hw'; cases hw'
        | some o =>
          rw [hx, ho] at hw'
          cases hw'
          have hi := (List.getElem?_eq_some_iff.mp hx).1
          have hxo := hh.2.2.1 x (List.mem_of_getElem? hx)
          have hoo := hh.2.2.2 o (List.mem_of_getElem? ho)
          have tx := tx_line h40 hxo hoo
          have hxt : (slots.map thaw)[i]? = some (thaw x) := by rw [List.getElem?_map, hx]; rfl
          have fin : ∀ (v4 v5 v6 v7 v8 : Option D) (G2 : Gp) (d : D), G2 = put G' p1 (.lst ((slots.map thaw).take i ++ [thaw x])) → d = o →
              N [some (.str (heapT slots outs)), some (.lst ((List.zipWith lineT slots outs).map D.str)), some (.ref p1), some (.ref p2), v4, v5, v6, v7, v8] (put G2 p2 (.lst (outs.take i ++ [d]))) := by
            rintro v4 v5 v6 v7 v8 G2 d rfl rfl
            refine hN _ _ ⟨⟨_, _, _, _, _, rfl⟩, by rw [put_ne n12, put_same, take_next' hxt], by rw [put_same, take_next' ho], fun c u e => ?_⟩
            have c1 : c ≠ p1 := fun z => by subst z; rw [hp1] at e; cases e
            have c2 : c ≠ p2 := fun z => by subst z; rw [hp2'] at e; cases e
            rw [put_ne c2, put_ne c1]; exact old c u e
          have g2' : put G' p1 (.lst ((slots.map thaw).take i ++ [thaw x])) p2 = some (.lst (outs.take i)) := by rw [put_ne n12.symm]; exact g2
          have len1 : ((slots.map thaw).take i).length < sizeLine := by rw [List.length_take]; omega
          have len2 : (outs.take i).length < sizeLine := by rw [List.length_take]; omega
          have lt40 : ((i : Nat) : Int) < 40 := by omega
          simp only [b_parse_heap_5, mSeq, mIfS, mAsg, mRet, mRetN, mDrop, mTest, mOp, mC, mVar, mSetI, mNext, mCB, mCons, mNil, mAndT, mOrT, mNotT, mTruT, mIf, mNeg, mOr, mAnd, mNot, mLst, mTup, mBM, mBM0, mPar, mCall, mCallK, mLstRg1, mTupRg1, mRng1, mRng2, mEnum, mZipT, mFor, mSl, mNoPart, mPart, mLc, wipeM, List.set_cons_zero, List.set_cons_succ, startM, List.map_cons, List.map_nil, List.cons_append, List.nil_append, List.length_cons, List.length_nil, List.replicate, List.getElem?_cons_zero, List.getElem?_cons_succ, Option.some.injEq, Nat.reduceSub, Nat.reduceAdd, true_and, exists_eq_left, exists_eq_left', e_ix_tup, e_ix_lst, e_ix_fz, e_ix_ref, e_lo_lst, e_lo_fz, e_lo_ref, e_so_lst, e_so_fz, e_so_tup, e_so_ref, e_hd_lst, e_hd_ref, e_add_int, e_add_str, e_add_tup, e_add_lst, e_sub_int, e_mul_int, e_mul_lst, e_mul_tup, e_mod_int, e_fdv_int, e_pow_int, e_lt_int, e_le_int, e_gt_int, e_ge_int, e_eq_int, e_ne_int, e_eq_str, e_ne_str, e_isN, e_notN, e_isN_non, e_isN_int, e_isN_tup, e_isN_str, e_isN_ref, e_isN_lst, e_abs, e_max2, e_min2, e_int_int, e_int_bl, e_str_int, e_str_str, e_str_non, e_len_str, e_len_tup, e_len_lst, e_len_fz, e_len_ref, e_list_tup, e_list_lst, e_list_fz, e_list_ref, e_tupl_tup, e_tupl_lst, e_tupl_ref, e_newT, e_newF, e_run_nm, e_run_tp, e_runs_nil, e_runs_cons, e_tru_bl, e_tru_int, e_tru_str, e_tru_lst, e_tru_tup, e_ty_str, e_ty_lst, e_ty_ref, e_append, e_insert, e_popAt, e_pop0, e_join, e_seqI_val, e_cut_str, e_cut_tup, e_cut_lst, e_cut_fz, e_cut_ref, mChain, mAugS, mStar, mEnumK, e_isi, e_isi2, e_all, e_intS_str, e_intS_int, e_inS, e_split, e_ix_str, e_iadd, e_tru_non]
          refine ⟨by decide, by have := tx.1; omega, ?_⟩
          rw [split_line]
          rcases hxo with rfl | ⟨row, rfl, hr⟩
          · have ho0 : o = .int 0 := by
              have := ((hc i _ hx).1 rfl).1
              rw [ho] at this
              exact Option.some.inj this
            refine ⟨_, _, rfl, by decide, ?_⟩
            have l4 : ((("free" : Str)).length : Int) = 1 ↔ False := by
              rw [show (("free" : Str)).length = 4 by decide]; decide
            simp only [b_parse_heap_6, l4, decide_false, b_parse_heap_7, lt40, decide_true, e_sp_require_word, mSeq, mIfS, mAsg, mRet, mRetN, mDrop, mTest, mOp, mC, mVar, mSetI, mNext, mCB, mCons, mNil, mAndT, mOrT, mNotT, mTruT, mIf, mNeg, mOr, mAnd, mNot, mLst, mTup, mBM, mBM0, mPar, mCall, mCallK, mLstRg1, mTupRg1, mRng1, mRng2, mEnum, mZipT, mFor, mSl, mNoPart, mPart, mLc, wipeM, List.set_cons_zero, List.set_cons_succ, startM, List.map_cons, List.map_nil, List.cons_append, List.nil_append, List.length_cons, List.length_nil, List.replicate, List.getElem?_cons_zero, List.getElem?_cons_succ, Option.some.injEq, Nat.reduceSub, Nat.reduceAdd, true_and, exists_eq_left, exists_eq_left', e_ix_tup, e_ix_lst, e_ix_fz, e_ix_ref, e_lo_lst, e_lo_fz, e_lo_ref, e_so_lst, e_so_fz, e_so_tup, e_so_ref, e_hd_lst, e_hd_ref, e_add_int, e_add_str, e_add_tup, e_add_lst, e_sub_int, e_mul_int, e_mul_lst, e_mul_tup, e_mod_int, e_fdv_int, e_pow_int, e_lt_int, e_le_int, e_gt_int, e_ge_int, e_eq_int, e_ne_int, e_eq_str, e_ne_str, e_isN, e_notN, e_isN_non, e_isN_int, e_isN_tup, e_isN_str, e_isN_ref, e_isN_lst, e_abs, e_max2, e_min2, e_int_int, e_int_bl, e_str_int, e_str_str, e_str_non, e_len_str, e_len_tup, e_len_lst, e_len_fz, e_len_ref, e_list_tup, e_list_lst, e_list_fz, e_list_ref, e_tupl_tup, e_tupl_lst, e_tupl_ref, e_newT, e_newF, e_run_nm, e_run_tp, e_runs_nil, e_runs_cons, e_tru_bl, e_tru_int, e_tru_str, e_tru_lst, e_tru_tup, e_ty_str, e_ty_lst, e_ty_ref, e_append, e_insert, e_popAt, e_pop0, e_join, e_seqI_val, e_cut_str, e_cut_tup, e_cut_lst, e_cut_fz, e_cut_ref, mChain, mAugS, mStar, mEnumK, e_isi, e_isi2, e_all, e_intS_str, e_intS_int, e_inS, e_split, e_ix_str, e_iadd, e_tru_non]
            refine ⟨by decide, rfl, ?_⟩
            simp only [b_parse_heap_8, decide_true, b_parse_heap_9, e_sp_require_word, mSeq, mIfS, mAsg, mRet, mRetN, mDrop, mTest, mOp, mC, mVar, mSetI, mNext, mCB, mCons, mNil, mAndT, mOrT, mNotT, mTruT, mIf, mNeg, mOr, mAnd, mNot, mLst, mTup, mBM, mBM0, mPar, mCall, mCallK, mLstRg1, mTupRg1, mRng1, mRng2, mEnum, mZipT, mFor, mSl, mNoPart, mPart, mLc, wipeM, List.set_cons_zero, List.set_cons_succ, startM, List.map_cons, List.map_nil, List.cons_append, List.nil_append, List.length_cons, List.length_nil, List.replicate, List.getElem?_cons_zero, List.getElem?_cons_succ, Option.some.injEq, Nat.reduceSub, Nat.reduceAdd, true_and, exists_eq_left, exists_eq_left', e_ix_tup, e_ix_lst, e_ix_fz, e_ix_ref, e_lo_lst, e_lo_fz, e_lo_ref, e_so_lst, e_so_fz, e_so_tup, e_so_ref, e_hd_lst, e_hd_ref, e_add_int, e_add_str, e_add_tup, e_add_lst, e_sub_int, e_mul_int, e_mul_lst, e_mul_tup, e_mod_int, e_fdv_int, e_pow_int, e_lt_int, e_le_int, e_gt_int, e_ge_int, e_eq_int, e_ne_int, e_eq_str, e_ne_str, e_isN, e_notN, e_isN_non, e_isN_int, e_isN_tup, e_isN_str, e_isN_ref, e_isN_lst, e_abs, e_max2, e_min2, e_int_int, e_int_bl, e_str_int, e_str_str, e_str_non, e_len_str, e_len_tup, e_len_lst, e_len_fz, e_len_ref, e_list_tup, e_list_lst, e_list_fz, e_list_ref, e_tupl_tup, e_tupl_lst, e_tupl_ref, e_newT, e_newF, e_run_nm, e_run_tp, e_runs_nil, e_runs_cons, e_tru_bl, e_tru_int, e_tru_str, e_tru_lst, e_tru_tup, e_ty_str, e_ty_lst, e_ty_ref, e_append, e_insert, e_popAt, e_pop0, e_join, e_seqI_val, e_cut_str, e_cut_tup, e_cut_lst, e_cut_fz, e_cut_ref, mChain, mAugS, mStar, mEnumK, e_isi, e_isi2, e_all, e_intS_str, e_intS_int, e_inS, e_split, e_ix_str, e_iadd, e_tru_non]
            refine ⟨by decide, eq_val rfl rfl rfl (by decide) (by decide) (.inl rfl) (.inl rfl) ?_⟩
            refine ⟨rfl, ?_⟩
            simp only [b_parse_heap_10, b_parse_heap_11, mSeq, mIfS, mAsg, mRet, mRetN, mDrop, mTest, mOp, mC, mVar, mSetI, mNext, mCB, mCons, mNil, mAndT, mOrT, mNotT, mTruT, mIf, mNeg, mOr, mAnd, mNot, mLst, mTup, mBM, mBM0, mPar, mCall, mCallK, mLstRg1, mTupRg1, mRng1, mRng2, mEnum, mZipT, mFor, mSl, mNoPart, mPart, mLc, wipeM, List.set_cons_zero, List.set_cons_succ, startM, List.map_cons, List.map_nil, List.cons_append, List.nil_append, List.length_cons, List.length_nil, List.replicate, List.getElem?_cons_zero, List.getElem?_cons_succ, Option.some.injEq, Nat.reduceSub, Nat.reduceAdd, true_and, exists_eq_left, exists_eq_left', e_ix_tup, e_ix_lst, e_ix_fz, e_ix_ref, e_lo_lst, e_lo_fz, e_lo_ref, e_so_lst, e_so_fz, e_so_tup, e_so_ref, e_hd_lst, e_hd_ref, e_add_int, e_add_str, e_add_tup, e_add_lst, e_sub_int, e_mul_int, e_mul_lst, e_mul_tup, e_mod_int, e_fdv_int, e_pow_int, e_lt_int, e_le_int, e_gt_int, e_ge_int, e_eq_int, e_ne_int, e_eq_str, e_ne_str, e_isN, e_notN, e_isN_non, e_isN_int, e_isN_tup, e_isN_str, e_isN_ref, e_isN_lst, e_abs, e_max2, e_min2, e_int_int, e_int_bl, e_str_int, e_str_str, e_str_non, e_len_str, e_len_tup, e_len_lst, e_len_fz, e_len_ref, e_list_tup, e_list_lst, e_list_fz, e_list_ref, e_tupl_tup, e_tupl_lst, e_tupl_ref, e_newT, e_newF, e_run_nm, e_run_tp, e_runs_nil, e_runs_cons, e_tru_bl, e_tru_int, e_tru_str, e_tru_lst, e_tru_tup, e_ty_str, e_ty_lst, e_ty_ref, e_append, e_insert, e_popAt, e_pop0, e_join, e_seqI_val, e_cut_str, e_cut_tup, e_cut_lst, e_cut_fz, e_cut_ref, mChain, mAugS, mStar, mEnumK, e_isi, e_isi2, e_all, e_intS_str, e_intS_int, e_inS, e_split, e_ix_str, e_iadd, e_tru_non]
            exact ⟨⟨_, g1⟩, _, g1, len1, ⟨_, g2'⟩, _, g2', len2, fin _ _ _ _ _ _ _ rfl ho0.symm⟩
          · obtain ⟨j, rfl, j0, j1⟩ := hoo
            obtain ⟨u, rfl⟩ : ∃ u : Nat, j = (u : Nat) := ⟨j.toNat, by omega⟩
            have W := word_of (i := u) (by omega)
            obtain ⟨nf, l1⟩ := W.small (by omega)
            refine ⟨_, _, rfl, by rw [List.length_map, List.length_map]; have := hr.1; omega, ?_⟩
            have ec : cell (.int (u : Nat)) = (toString ((u : Nat) : Int) : Str) := rfl
            rw [ec]
            rw [List.map_map]
            revert W nf l1
            generalize (toString ((u : Nat) : Int) : Str) = z
            intro W nf l1
            obtain ⟨c, r, ez, _⟩ := W.hd
            have hr0 : r = [] := by
              have : z.cps.toList.length = z.length := by simp [Str.length]
              rw [ez, List.length_cons, l1] at this
              exact List.length_eq_zero_iff.mp (by omega)
            have ez2 : z = ⟨#[c]⟩ := TL.ext_tl (by show z.cps.toList = [c]; rw [ez, hr0])
            have hcd : c ∈ DG := by
              have := W.dg
              rw [ez, List.all_cons, Bool.and_eq_true] at this
              simpa using this.1
            have hl1 : ((z.length : Nat) : Int) = 1 := by omega
            simp only [b_parse_heap_6, hl1, decide_true, mSeq, mIfS, mAsg, mRet, mRetN, mDrop, mTest, mOp, mC, mVar, mSetI, mNext, mCB, mCons, mNil, mAndT, mOrT, mNotT, mTruT, mIf, mNeg, mOr, mAnd, mNot, mLst, mTup, mBM, mBM0, mPar, mCall, mCallK, mLstRg1, mTupRg1, mRng1, mRng2, mEnum, mZipT, mFor, mSl, mNoPart, mPart, mLc, wipeM, List.set_cons_zero, List.set_cons_succ, startM, List.map_cons, List.map_nil, List.cons_append, List.nil_append, List.length_cons, List.length_nil, List.replicate, List.getElem?_cons_zero, List.getElem?_cons_succ, Option.some.injEq, Nat.reduceSub, Nat.reduceAdd, true_and, exists_eq_left, exists_eq_left', e_ix_tup, e_ix_lst, e_ix_fz, e_ix_ref, e_lo_lst, e_lo_fz, e_lo_ref, e_so_lst, e_so_fz, e_so_tup, e_so_ref, e_hd_lst, e_hd_ref, e_add_int, e_add_str, e_add_tup, e_add_lst, e_sub_int, e_mul_int, e_mul_lst, e_mul_tup, e_mod_int, e_fdv_int, e_pow_int, e_lt_int, e_le_int, e_gt_int, e_ge_int, e_eq_int, e_ne_int, e_eq_str, e_ne_str, e_isN, e_notN, e_isN_non, e_isN_int, e_isN_tup, e_isN_str, e_isN_ref, e_isN_lst, e_abs, e_max2, e_min2, e_int_int, e_int_bl, e_str_int, e_str_str, e_str_non, e_len_str, e_len_tup, e_len_lst, e_len_fz, e_len_ref, e_list_tup, e_list_lst, e_list_fz, e_list_ref, e_tupl_tup, e_tupl_lst, e_tupl_ref, e_newT, e_newF, e_run_nm, e_run_tp, e_runs_nil, e_runs_cons, e_tru_bl, e_tru_int, e_tru_str, e_tru_lst, e_tru_tup, e_ty_str, e_ty_lst, e_ty_ref, e_append, e_insert, e_popAt, e_pop0, e_join, e_seqI_val, e_cut_str, e_cut_tup, e_cut_lst, e_cut_fz, e_cut_ref, mChain, mAugS, mStar, mEnumK, e_isi, e_isi2, e_all, e_intS_str, e_intS_int, e_inS, e_split, e_ix_str, e_iadd, e_tru_non]
            refine ⟨by omega, c, ez2, ?_⟩
            rw [show decide (c ∈ (("0123456789" : Str)).cps.toList) = true from decide_eq_true hcd]
            simp only [b_parse_heap_7, lt40, nf, decide_true, decide_false, Bool.false_eq_true, if_false, e_sp_require_word, mSeq, mIfS, mAsg, mRet, mRetN, mDrop, mTest, mOp, mC, mVar, mSetI, mNext, mCB, mCons, mNil, mAndT, mOrT, mNotT, mTruT, mIf, mNeg, mOr, mAnd, mNot, mLst, mTup, mBM, mBM0, mPar, mCall, mCallK, mLstRg1, mTupRg1, mRng1, mRng2, mEnum, mZipT, mFor, mSl, mNoPart, mPart, mLc, wipeM, List.set_cons_zero, List.set_cons_succ, startM, List.map_cons, List.map_nil, List.cons_append, List.nil_append, List.length_cons, List.length_nil, List.replicate, List.getElem?_cons_zero, List.getElem?_cons_succ, Option.some.injEq, Nat.reduceSub, Nat.reduceAdd, true_and, exists_eq_left, exists_eq_left', e_ix_tup, e_ix_lst, e_ix_fz, e_ix_ref, e_lo_lst, e_lo_fz, e_lo_ref, e_so_lst, e_so_fz, e_so_tup, e_so_ref, e_hd_lst, e_hd_ref, e_add_int, e_add_str, e_add_tup, e_add_lst, e_sub_int, e_mul_int, e_mul_lst, e_mul_tup, e_mod_int, e_fdv_int, e_pow_int, e_lt_int, e_le_int, e_gt_int, e_ge_int, e_eq_int, e_ne_int, e_eq_str, e_ne_str, e_isN, e_notN, e_isN_non, e_isN_int, e_isN_tup, e_isN_str, e_isN_ref, e_isN_lst, e_abs, e_max2, e_min2, e_int_int, e_int_bl, e_str_int, e_str_str, e_str_non, e_len_str, e_len_tup, e_len_lst, e_len_fz, e_len_ref, e_list_tup, e_list_lst, e_list_fz, e_list_ref, e_tupl_tup, e_tupl_lst, e_tupl_ref, e_newT, e_newF, e_run_nm, e_run_tp, e_runs_nil, e_runs_cons, e_tru_bl, e_tru_int, e_tru_str, e_tru_lst, e_tru_tup, e_ty_str, e_ty_lst, e_ty_ref, e_append, e_insert, e_popAt, e_pop0, e_join, e_seqI_val, e_cut_str, e_cut_tup, e_cut_lst, e_cut_fz, e_cut_ref, mChain, mAugS, mStar, mEnumK, e_isi, e_isi2, e_all, e_intS_str, e_intS_int, e_inS, e_split, e_ix_str, e_iadd, e_tru_non]
            refine ⟨rfl, ?_⟩
            simp only [b_parse_heap_8, nf, decide_false, b_parse_heap_10, e_sp_parse_slots, mSeq, mIfS, mAsg, mRet, mRetN, mDrop, mTest, mOp, mC, mVar, mSetI, mNext, mCB, mCons, mNil, mAndT, mOrT, mNotT, mTruT, mIf, mNeg, mOr, mAnd, mNot, mLst, mTup, mBM, mBM0, mPar, mCall, mCallK, mLstRg1, mTupRg1, mRng1, mRng2, mEnum, mZipT, mFor, mSl, mNoPart, mPart, mLc, wipeM, List.set_cons_zero, List.set_cons_succ, startM, List.map_cons, List.map_nil, List.cons_append, List.nil_append, List.length_cons, List.length_nil, List.replicate, List.getElem?_cons_zero, List.getElem?_cons_succ, Option.some.injEq, Nat.reduceSub, Nat.reduceAdd, true_and, exists_eq_left, exists_eq_left', e_ix_tup, e_ix_lst, e_ix_fz, e_ix_ref, e_lo_lst, e_lo_fz, e_lo_ref, e_so_lst, e_so_fz, e_so_tup, e_so_ref, e_hd_lst, e_hd_ref, e_add_int, e_add_str, e_add_tup, e_add_lst, e_sub_int, e_mul_int, e_mul_lst, e_mul_tup, e_mod_int, e_fdv_int, e_pow_int, e_lt_int, e_le_int, e_gt_int, e_ge_int, e_eq_int, e_ne_int, e_eq_str, e_ne_str, e_isN, e_notN, e_isN_non, e_isN_int, e_isN_tup, e_isN_str, e_isN_ref, e_isN_lst, e_abs, e_max2, e_min2, e_int_int, e_int_bl, e_str_int, e_str_str, e_str_non, e_len_str, e_len_tup, e_len_lst, e_len_fz, e_len_ref, e_list_tup, e_list_lst, e_list_fz, e_list_ref, e_tupl_tup, e_tupl_lst, e_tupl_ref, e_newT, e_newF, e_run_nm, e_run_tp, e_runs_nil, e_runs_cons, e_tru_bl, e_tru_int, e_tru_str, e_tru_lst, e_tru_tup, e_ty_str, e_ty_lst, e_ty_ref, e_append, e_insert, e_popAt, e_pop0, e_join, e_seqI_val, e_cut_str, e_cut_tup, e_cut_lst, e_cut_fz, e_cut_ref, mChain, mAugS, mStar, mEnumK, e_isi, e_isi2, e_all, e_intS_str, e_intS_int, e_inS, e_split, e_ix_str, e_iadd, e_tru_non]
            refine ⟨⟨_, g1⟩, slots.length, row, hr, h40, rfl, ?_, ?_⟩
            · rw [List.length_map, List.length_zipWith, ← hlen, Nat.min_self]
            simp only [b_parse_heap_11, mSeq, mIfS, mAsg, mRet, mRetN, mDrop, mTest, mOp, mC, mVar, mSetI, mNext, mCB, mCons, mNil, mAndT, mOrT, mNotT, mTruT, mIf, mNeg, mOr, mAnd, mNot, mLst, mTup, mBM, mBM0, mPar, mCall, mCallK, mLstRg1, mTupRg1, mRng1, mRng2, mEnum, mZipT, mFor, mSl, mNoPart, mPart, mLc, wipeM, List.set_cons_zero, List.set_cons_succ, startM, List.map_cons, List.map_nil, List.cons_append, List.nil_append, List.length_cons, List.length_nil, List.replicate, List.getElem?_cons_zero, List.getElem?_cons_succ, Option.some.injEq, Nat.reduceSub, Nat.reduceAdd, true_and, exists_eq_left, exists_eq_left', e_ix_tup, e_ix_lst, e_ix_fz, e_ix_ref, e_lo_lst, e_lo_fz, e_lo_ref, e_so_lst, e_so_fz, e_so_tup, e_so_ref, e_hd_lst, e_hd_ref, e_add_int, e_add_str, e_add_tup, e_add_lst, e_sub_int, e_mul_int, e_mul_lst, e_mul_tup, e_mod_int, e_fdv_int, e_pow_int, e_lt_int, e_le_int, e_gt_int, e_ge_int, e_eq_int, e_ne_int, e_eq_str, e_ne_str, e_isN, e_notN, e_isN_non, e_isN_int, e_isN_tup, e_isN_str, e_isN_ref, e_isN_lst, e_abs, e_max2, e_min2, e_int_int, e_int_bl, e_str_int, e_str_str, e_str_non, e_len_str, e_len_tup, e_len_lst, e_len_fz, e_len_ref, e_list_tup, e_list_lst, e_list_fz, e_list_ref, e_tupl_tup, e_tupl_lst, e_tupl_ref, e_newT, e_newF, e_run_nm, e_run_tp, e_runs_nil, e_runs_cons, e_tru_bl, e_tru_int, e_tru_str, e_tru_lst, e_tru_tup, e_ty_str, e_ty_lst, e_ty_ref, e_append, e_insert, e_popAt, e_pop0, e_join, e_seqI_val, e_cut_str, e_cut_tup, e_cut_lst, e_cut_fz, e_cut_ref, mChain, mAugS, mStar, mEnumK, e_isi, e_isi2, e_all, e_intS_str, e_intS_int, e_inS, e_split, e_ix_str, e_iadd, e_tru_non]
            exact ⟨_, g1, len1, ⟨_, g2'⟩, u, W.int, by omega, _, g2', len2, fin _ _ _ _ _ _ _ rfl rfl⟩
    · rintro τ G' ⟨⟨v4, v5, v6, v7, v8, rfl⟩, g1, g2, old⟩
      refine ⟨trivial, ?_⟩
      rw [enumD_len, List.length_map, List.length_zipWith, ← hlen, Nat.min_self] at g1 g2
      rw [List.take_of_length_le (by rw [List.length_map]; exact Nat.le_refl _)] at g1
      rw [hlen, List.take_length] at g2
      simp only [b_parse_heap_12, b_parse_heap_13, e_sp_make_heap, mSeq, mIfS, mAsg, mRet, mRetN, mDrop, mTest, mOp, mC, mVar, mSetI, mNext, mCB, mCons, mNil, mAndT, mOrT, mNotT, mTruT, mIf, mNeg, mOr, mAnd, mNot, mLst, mTup, mBM, mBM0, mPar, mCall, mCallK, mLstRg1, mTupRg1, mRng1, mRng2, mEnum, mZipT, mFor, mSl, mNoPart, mPart, mLc, wipeM, List.set_cons_zero, List.set_cons_succ, startM, List.map_cons, List.map_nil, List.cons_append, List.nil_append, List.length_cons, List.length_nil, List.replicate, List.getElem?_cons_zero, List.getElem?_cons_succ, Option.some.injEq, Nat.reduceSub, Nat.reduceAdd, true_and, exists_eq_left, exists_eq_left', e_ix_tup, e_ix_lst, e_ix_fz, e_ix_ref, e_lo_lst, e_lo_fz, e_lo_ref, e_so_lst, e_so_fz, e_so_tup, e_so_ref, e_hd_lst, e_hd_ref, e_add_int, e_add_str, e_add_tup, e_add_lst, e_sub_int, e_mul_int, e_mul_lst, e_mul_tup, e_mod_int, e_fdv_int, e_pow_int, e_lt_int, e_le_int, e_gt_int, e_ge_int, e_eq_int, e_ne_int, e_eq_str, e_ne_str, e_isN, e_notN, e_isN_non, e_isN_int, e_isN_tup, e_isN_str, e_isN_ref, e_isN_lst, e_abs, e_max2, e_min2, e_int_int, e_int_bl, e_str_int, e_str_str, e_str_non, e_len_str, e_len_tup, e_len_lst, e_len_fz, e_len_ref, e_list_tup, e_list_lst, e_list_fz, e_list_ref, e_tupl_tup, e_tupl_lst, e_tupl_ref, e_newT, e_newF, e_run_nm, e_run_tp, e_runs_nil, e_runs_cons, e_tru_bl, e_tru_int, e_tru_str, e_tru_lst, e_tru_tup, e_ty_str, e_ty_lst, e_ty_ref, e_append, e_insert, e_popAt, e_pop0, e_join, e_seqI_val, e_cut_str, e_cut_tup, e_cut_lst, e_cut_fz, e_cut_ref, mChain, mAugS, mStar, mEnumK, e_isi, e_isi2, e_all, e_intS_str, e_intS_int, e_inS, e_split, e_ix_str, e_iadd, e_tru_non]
      exact ⟨slots, outs, p1, p2, rfl, rfl, g1, g2, hh, hc, less_of old hq⟩
    · have c1 : c ≠ p1 := fun z => by subst z; rw [hp1] at e; cases e
      have c2 : c ≠ p2 := fun z => by subst z; rw [hp2'] at e; cases e
      rw [put_ne c2, put_ne c1]; exact e
  simp only [b_parse_heap, mSeq, mIfS, mAsg, mRet, mRetN, mDrop, mTest, mOp, mC, mVar, mSetI, mNext, mCB, mCons, mNil, mAndT, mOrT, mNotT, mTruT, mIf, mNeg, mOr, mAnd, mNot, mLst, mTup, mBM, mBM0, mPar, mCall, mCallK, mLstRg1, mTupRg1, mRng1, mRng2, mEnum, mZipT, mFor, mSl, mNoPart, mPart, mLc, wipeM, List.set_cons_zero, List.set_cons_succ, startM, List.map_cons, List.map_nil, List.cons_append, List.nil_append, List.length_cons, List.length_nil, List.replicate, List.getElem?_cons_zero, List.getElem?_cons_succ, Option.some.injEq, Nat.reduceSub, Nat.reduceAdd, true_and, exists_eq_left, exists_eq_left', e_ix_tup, e_ix_lst, e_ix_fz, e_ix_ref, e_lo_lst, e_lo_fz, e_lo_ref, e_so_lst, e_so_fz, e_so_tup, e_so_ref, e_hd_lst, e_hd_ref, e_add_int, e_add_str, e_add_tup, e_add_lst, e_sub_int, e_mul_int, e_mul_lst, e_mul_tup, e_mod_int, e_fdv_int, e_pow_int, e_lt_int, e_le_int, e_gt_int, e_ge_int, e_eq_int, e_ne_int, e_eq_str, e_ne_str, e_isN, e_notN, e_isN_non, e_isN_int, e_isN_tup, e_isN_str, e_isN_ref, e_isN_lst, e_abs, e_max2, e_min2, e_int_int, e_int_bl, e_str_int, e_str_str, e_str_non, e_len_str, e_len_tup, e_len_lst, e_len_fz, e_len_ref, e_list_tup, e_list_lst, e_list_fz, e_list_ref, e_tupl_tup, e_tupl_lst, e_tupl_ref, e_newT, e_newF, e_run_nm, e_run_tp, e_runs_nil, e_runs_cons, e_tru_bl, e_tru_int, e_tru_str, e_tru_lst, e_tru_tup, e_ty_str, e_ty_lst, e_ty_ref, e_append, e_insert, e_popAt, e_pop0, e_join, e_seqI_val, e_cut_str, e_cut_tup, e_cut_lst, e_cut_fz, e_cut_ref, mChain, mAugS, mStar, mEnumK, e_isi, e_isi2, e_all, e_intS_str, e_intS_int, e_inS, e_split, e_ix_str, e_iadd, e_tru_non]
  cases slots with
  | nil =>
    have e : heapT [] outs = "" := by show Txt.join "\n" [] = ""; rw [join_eq]; decide
    rw [e] at main ⊢
    simp only [decide_true, Bool.not_true, mSeq, mIfS, mAsg, mRet, mRetN, mDrop, mTest, mOp, mC, mVar, mSetI, mNext, mCB, mCons, mNil, mAndT, mOrT, mNotT, mTruT, mIf, mNeg, mOr, mAnd, mNot, mLst, mTup, mBM, mBM0, mPar, mCall, mCallK, mLstRg1, mTupRg1, mRng1, mRng2, mEnum, mZipT, mFor, mSl, mNoPart, mPart, mLc, wipeM, List.set_cons_zero, List.set_cons_succ, startM, List.map_cons, List.map_nil, List.cons_append, List.nil_append, List.length_cons, List.length_nil, List.replicate, List.getElem?_cons_zero, List.getElem?_cons_succ, Option.some.injEq, Nat.reduceSub, Nat.reduceAdd, true_and, exists_eq_left, exists_eq_left', e_ix_tup, e_ix_lst, e_ix_fz, e_ix_ref, e_lo_lst, e_lo_fz, e_lo_ref, e_so_lst, e_so_fz, e_so_tup, e_so_ref, e_hd_lst, e_hd_ref, e_add_int, e_add_str, e_add_tup, e_add_lst, e_sub_int, e_mul_int, e_mul_lst, e_mul_tup, e_mod_int, e_fdv_int, e_pow_int, e_lt_int, e_le_int, e_gt_int, e_ge_int, e_eq_int, e_ne_int, e_eq_str, e_ne_str, e_isN, e_notN, e_isN_non, e_isN_int, e_isN_tup, e_isN_str, e_isN_ref, e_isN_lst, e_abs, e_max2, e_min2, e_int_int, e_int_bl, e_str_int, e_str_str, e_str_non, e_len_str, e_len_tup, e_len_lst, e_len_fz, e_len_ref, e_list_tup, e_list_lst, e_list_fz, e_list_ref, e_tupl_tup, e_tupl_lst, e_tupl_ref, e_newT, e_newF, e_run_nm, e_run_tp, e_runs_nil, e_runs_cons, e_tru_bl, e_tru_int, e_tru_str, e_tru_lst, e_tru_tup, e_ty_str, e_ty_lst, e_ty_ref, e_append, e_insert, e_popAt, e_pop0, e_join, e_seqI_val, e_cut_str, e_cut_tup, e_cut_lst, e_cut_fz, e_cut_ref, mChain, mAugS, mStar, mEnumK, e_isi, e_isi2, e_all, e_intS_str, e_intS_int, e_inS, e_split, e_ix_str, e_iadd, e_tru_non]
    exact ⟨by decide, main⟩
  | cons x xs =>
    have hne := page_pos hh (fun z => nomatch z)
    have tx := (big_join (heap_lines hh).1 (by rw [(heap_lines hh).2]; omega)).1
    have tx1 : (heapT (x :: xs) outs).length ≤ 300000 := tx.1
    simp only [hne, decide_false, Bool.not_false, mSeq, mIfS, mAsg, mRet, mRetN, mDrop, mTest, mOp, mC, mVar, mSetI, mNext, mCB, mCons, mNil, mAndT, mOrT, mNotT, mTruT, mIf, mNeg, mOr, mAnd, mNot, mLst, mTup, mBM, mBM0, mPar, mCall, mCallK, mLstRg1, mTupRg1, mRng1, mRng2, mEnum, mZipT, mFor, mSl, mNoPart, mPart, mLc, wipeM, List.set_cons_zero, List.set_cons_succ, startM, List.map_cons, List.map_nil, List.cons_append, List.nil_append, List.length_cons, List.length_nil, List.replicate, List.getElem?_cons_zero, List.getElem?_cons_succ, Option.some.injEq, Nat.reduceSub, Nat.reduceAdd, true_and, exists_eq_left, exists_eq_left', e_ix_tup, e_ix_lst, e_ix_fz, e_ix_ref, e_lo_lst, e_lo_fz, e_lo_ref, e_so_lst, e_so_fz, e_so_tup, e_so_ref, e_hd_lst, e_hd_ref, e_add_int, e_add_str, e_add_tup, e_add_lst, e_sub_int, e_mul_int, e_mul_lst, e_mul_tup, e_mod_int, e_fdv_int, e_pow_int, e_lt_int, e_le_int, e_gt_int, e_ge_int, e_eq_int, e_ne_int, e_eq_str, e_ne_str, e_isN, e_notN, e_isN_non, e_isN_int, e_isN_tup, e_isN_str, e_isN_ref, e_isN_lst, e_abs, e_max2, e_min2, e_int_int, e_int_bl, e_str_int, e_str_str, e_str_non, e_len_str, e_len_tup, e_len_lst, e_len_fz, e_len_ref, e_list_tup, e_list_lst, e_list_fz, e_list_ref, e_tupl_tup, e_tupl_lst, e_tupl_ref, e_newT, e_newF, e_run_nm, e_run_tp, e_runs_nil, e_runs_cons, e_tru_bl, e_tru_int, e_tru_str, e_tru_lst, e_tru_tup, e_ty_str, e_ty_lst, e_ty_ref, e_append, e_insert, e_popAt, e_pop0, e_join, e_seqI_val, e_cut_str, e_cut_tup, e_cut_lst, e_cut_fz, e_cut_ref, mChain, mAugS, mStar, mEnumK, e_isi, e_isi2, e_all, e_intS_str, e_intS_int, e_inS, e_split, e_ix_str, e_iadd, e_tru_non]
    refine ⟨by decide, by omega, ?_⟩
    rw [split_page hlen (fun z => nomatch z)]
    exact main
end Q82

set_option maxRecDepth 100000
namespace Q82
open PySem PySem.Spec L2 ML
open PyProof.Rows hiding St
/-! ### what repr takes -/
def Dat (d w : Nat) (x : D) : Prop := okI x = true ∧ dep x ≤ d ∧ wtD x ≤ w
theorem Dat.mono {d w d' w' : Nat} {x : D} (h : Dat d w x) (h1 : d ≤ d') (h2 : w ≤ w') : Dat d' w' x := ⟨h.1, Nat.le_trans h.2.1 h1, Nat.le_trans h.2.2 h2⟩
theorem dat_non : Dat 0 10 .non := ⟨rfl, Nat.le_refl _, by unfold wtD; simp [pd, PyData.weight]⟩
theorem okI_int {i : Int} (h0 : 0 ≤ i) (h1 : i ≤ 10 ^ 30) : okI (.int i) = true := by
  show (decide (0 ≤ i) && decide (i ≤ 10 ^ 30)) = true
  rw [decide_eq_true h0, decide_eq_true h1]; rfl
theorem wt_int {i : Int} {k : Nat} (h : i.natAbs < 2 ^ k) (hk : 1 ≤ k) : wtD (.int i) ≤ k := by
  show (PyData.int i).weight ≤ k
  simp only [PyData.weight]
  by_cases hz : i.natAbs = 0
  · have : i = 0 := by omega
    subst this; simp
  · have := (Nat.log2_lt hz).mpr h
    split <;> omega
theorem dat_small {i : Int} (h0 : 0 ≤ i) (h1 : i ≤ 1000) : Dat 0 10 (.int i) := ⟨okI_int h0 (by omega), Nat.le_refl _, wt_int (by omega) (by decide)⟩
theorem dat_int {i : Int} (h0 : 0 ≤ i) (h1 : i ≤ 10 ^ 30) : Dat 0 100 (.int i) := ⟨okI_int h0 h1, Nat.le_refl _, wt_int (by
  have : (10 ^ 30 : Nat) < 2 ^ 100 := by decide +kernel
  omega) (by decide)⟩
theorem dat_tup {d w n : Nat} {xs : List D} (h : ∀ x ∈ xs, Dat d w x) (hn : xs.length ≤ n) : Dat (d + 1) (n * (w + 1)) (.tup xs) :=
  ⟨by show okIs xs = true; exact okIs_all fun x hx => (h x hx).1, Nat.succ_le_succ (deps_all fun x hx => (h x hx).2.1), Nat.le_trans (wt_tup fun x hx => (h x hx).2.2) (Nat.mul_le_mul_right _ hn)⟩
theorem dat_ref {n : Nat} (hn : n ≤ 1000) {x : D} (h : RefOk n x) : Dat 0 10 x := by
  rcases h with rfl | ⟨i, rfl, a, b⟩
  · exact dat_non
  · exact dat_small a (by omega)
theorem e_repr {xs : List D} {G : Gp} {q : MK} : mRepr [.tup xs] G q = ((okD (.tup xs) = true ∧ dep (.tup xs) ≤ 60 ∧ (pd (.tup xs)).showable = true ∧ (pd (.tup xs)).hasDict = false ∧ (pd (.tup xs)).depth ≤ 60 ∧ (pd (.tup xs)).shown.length ≤ sizeLine) ∧ q (.str (pd (.tup xs)).shown) G) := rfl
theorem rng_ok {k n : Nat} (h : k ≤ n) : RowOk k (RefOk n) (rng 0 k) := ⟨Nat.le_of_eq rng_len, fun x hx => by
  obtain ⟨i, hi, rfl⟩ := List.mem_iff_getElem.mp hx
  obtain ⟨h1, e⟩ := rng_at (List.getElem?_eq_getElem hi)
  exact .inr ⟨_, e, by omega, by omega⟩⟩
theorem dat_home {slots outs : List D} (h : HeapOk slots outs) : Dat 3 100000 (.tup [.tup slots, .tup outs]) := by
  obtain ⟨h1, h2, h3, h4⟩ := h
  have a : Dat 2 18000 (.tup slots) := (dat_tup (d := 1) (w := 440) (n := 40) (fun x hx => by
    rcases h3 x hx with rfl | ⟨row, rfl, h⟩
    · exact dat_non.mono (by decide) (by decide)
    · exact dat_tup (d := 0) (w := 10) (n := 40) (fun y hy => dat_ref (n := slots.length) (by omega) (h.2 y hy)) h.1) h2).mono (by decide) (by decide)
  have b : Dat 2 18000 (.tup outs) := (dat_tup (d := 0) (w := 10) (n := 40) (fun x hx => by obtain ⟨i, rfl, a, b⟩ := h4 x hx; exact dat_small a (by omega)) (by omega)).mono (by decide) (by decide)
  exact (dat_tup (n := 2) (fun x hx => by
    rcases List.mem_cons.mp hx with rfl | hx
    · exact a
    · rw [List.mem_singleton] at hx; subst hx; exact b) (Nat.le_refl _)).mono (by decide) (by decide)
def cutN (n : Nat) (x : D) : D := match x with
  | .int i => if i = (n : Int) then .non else .int i
  | x => x
theorem law_wide (x0 : D) (G : Gp) (q : MK) (h : p_wide x0 G q) : b_wide { nx := fun _ G' => less q .non G', rt := less q } (startM ["_law_pen_here", "_law_size_here", "_law_most", "_law_rows", "_law_v", "_law_some", "_law_at", "_law_held"] [x0]) G := by
  obtain ⟨a, m, o, rfl, h0, hp, hm, kq⟩ := h
  have hss := sizeLine_eq
  simp only [b_wide, e_sp_draw, mSeq, mIfS, mAsg, mRet, mRetN, mDrop, mTest, mOp, mC, mVar, mSetI, mNext, mCB, mCons, mNil, mAndT, mOrT, mNotT, mTruT, mIf, mNeg, mOr, mAnd, mNot, mLst, mTup, mBM, mBM0, mPar, mCall, mCallK, mLstRg1, mTupRg1, mRng1, mRng2, mEnum, mZipT, mFor, mSl, mNoPart, mPart, mLc, wipeM, List.set_cons_zero, List.set_cons_succ, startM, List.map_cons, List.map_nil, List.cons_append, List.nil_append, List.length_cons, List.length_nil, List.replicate, List.getElem?_cons_zero, List.getElem?_cons_succ, Option.some.injEq, Nat.reduceSub, Nat.reduceAdd, true_and, exists_eq_left, exists_eq_left', e_ix_tup, e_ix_lst, e_ix_fz, e_ix_ref, e_lo_lst, e_lo_fz, e_lo_ref, e_so_lst, e_so_fz, e_so_tup, e_so_ref, e_hd_lst, e_hd_ref, e_add_int, e_add_str, e_add_tup, e_add_lst, e_sub_int, e_mul_int, e_mul_lst, e_mul_tup, e_mod_int, e_fdv_int, e_pow_int, e_lt_int, e_le_int, e_gt_int, e_ge_int, e_eq_int, e_ne_int, e_eq_str, e_ne_str, e_isN, e_notN, e_isN_non, e_isN_int, e_isN_tup, e_isN_str, e_isN_ref, e_isN_lst, e_abs, e_max2, e_min2, e_int_int, e_int_bl, e_str_int, e_str_str, e_str_non, e_len_str, e_len_tup, e_len_lst, e_len_fz, e_len_ref, e_list_tup, e_list_lst, e_list_fz, e_list_ref, e_tupl_tup, e_tupl_lst, e_tupl_ref, e_newT, e_newF, e_run_nm, e_run_tp, e_runs_nil, e_runs_cons, e_tru_bl, e_tru_int, e_tru_str, e_tru_lst, e_tru_tup, e_ty_str, e_ty_lst, e_ty_ref, e_append, e_insert, e_popAt, e_pop0, e_join, e_seqI_val, e_cut_str, e_cut_tup, e_cut_lst, e_cut_fz, e_cut_ref, mChain, mAugS, mStar, mEnumK, e_isi, e_isi2, e_all, e_intS_str, e_intS_int, e_inS, e_split, e_ix_str, e_iadd, e_tru_non]
  refine draw_at (E := noX) h0 hp (by omega) (by omega) (by omega) fun r0 o1 ra rb p1 => ?_
  simp only [b_wide_2, e_sp_draw, mSeq, mIfS, mAsg, mRet, mRetN, mDrop, mTest, mOp, mC, mVar, mSetI, mNext, mCB, mCons, mNil, mAndT, mOrT, mNotT, mTruT, mIf, mNeg, mOr, mAnd, mNot, mLst, mTup, mBM, mBM0, mPar, mCall, mCallK, mLstRg1, mTupRg1, mRng1, mRng2, mEnum, mZipT, mFor, mSl, mNoPart, mPart, mLc, wipeM, List.set_cons_zero, List.set_cons_succ, startM, List.map_cons, List.map_nil, List.cons_append, List.nil_append, List.length_cons, List.length_nil, List.replicate, List.getElem?_cons_zero, List.getElem?_cons_succ, Option.some.injEq, Nat.reduceSub, Nat.reduceAdd, true_and, exists_eq_left, exists_eq_left', e_ix_tup, e_ix_lst, e_ix_fz, e_ix_ref, e_lo_lst, e_lo_fz, e_lo_ref, e_so_lst, e_so_fz, e_so_tup, e_so_ref, e_hd_lst, e_hd_ref, e_add_int, e_add_str, e_add_tup, e_add_lst, e_sub_int, e_mul_int, e_mul_lst, e_mul_tup, e_mod_int, e_fdv_int, e_pow_int, e_lt_int, e_le_int, e_gt_int, e_ge_int, e_eq_int, e_ne_int, e_eq_str, e_ne_str, e_isN, e_notN, e_isN_non, e_isN_int, e_isN_tup, e_isN_str, e_isN_ref, e_isN_lst, e_abs, e_max2, e_min2, e_int_int, e_int_bl, e_str_int, e_str_str, e_str_non, e_len_str, e_len_tup, e_len_lst, e_len_fz, e_len_ref, e_list_tup, e_list_lst, e_list_fz, e_list_ref, e_tupl_tup, e_tupl_lst, e_tupl_ref, e_newT, e_newF, e_run_nm, e_run_tp, e_runs_nil, e_runs_cons, e_tru_bl, e_tru_int, e_tru_str, e_tru_lst, e_tru_tup, e_ty_str, e_ty_lst, e_ty_ref, e_append, e_insert, e_popAt, e_pop0, e_join, e_seqI_val, e_cut_str, e_cut_tup, e_cut_lst, e_cut_fz, e_cut_ref, mChain, mAugS, mStar, mEnumK, e_isi, e_isi2, e_all, e_intS_str, e_intS_int, e_inS, e_split, e_ix_str, e_iadd, e_tru_non]
  refine draw_at (E := noX) put_same p1 (by omega) (by omega) (by omega) fun t0 o2 ta tb p2 => ?_
  obtain ⟨n, en⟩ : ∃ n : Nat, 1 + r0 = (n : Nat) := ⟨(1 + r0).toNat, by omega⟩
  obtain ⟨t, et⟩ : ∃ t : Nat, 1 + t0 = (t : Nat) := ⟨(1 + t0).toNat, by omega⟩
  simp only [put_put, en, et, b_wide_3, mSeq, mIfS, mAsg, mRet, mRetN, mDrop, mTest, mOp, mC, mVar, mSetI, mNext, mCB, mCons, mNil, mAndT, mOrT, mNotT, mTruT, mIf, mNeg, mOr, mAnd, mNot, mLst, mTup, mBM, mBM0, mPar, mCall, mCallK, mLstRg1, mTupRg1, mRng1, mRng2, mEnum, mZipT, mFor, mSl, mNoPart, mPart, mLc, wipeM, List.set_cons_zero, List.set_cons_succ, startM, List.map_cons, List.map_nil, List.cons_append, List.nil_append, List.length_cons, List.length_nil, List.replicate, List.getElem?_cons_zero, List.getElem?_cons_succ, Option.some.injEq, Nat.reduceSub, Nat.reduceAdd, true_and, exists_eq_left, exists_eq_left', e_ix_tup, e_ix_lst, e_ix_fz, e_ix_ref, e_lo_lst, e_lo_fz, e_lo_ref, e_so_lst, e_so_fz, e_so_tup, e_so_ref, e_hd_lst, e_hd_ref, e_add_int, e_add_str, e_add_tup, e_add_lst, e_sub_int, e_mul_int, e_mul_lst, e_mul_tup, e_mod_int, e_fdv_int, e_pow_int, e_lt_int, e_le_int, e_gt_int, e_ge_int, e_eq_int, e_ne_int, e_eq_str, e_ne_str, e_isN, e_notN, e_isN_non, e_isN_int, e_isN_tup, e_isN_str, e_isN_ref, e_isN_lst, e_abs, e_max2, e_min2, e_int_int, e_int_bl, e_str_int, e_str_str, e_str_non, e_len_str, e_len_tup, e_len_lst, e_len_fz, e_len_ref, e_list_tup, e_list_lst, e_list_fz, e_list_ref, e_tupl_tup, e_tupl_lst, e_tupl_ref, e_newT, e_newF, e_run_nm, e_run_tp, e_runs_nil, e_runs_cons, e_tru_bl, e_tru_int, e_tru_str, e_tru_lst, e_tru_tup, e_ty_str, e_ty_lst, e_ty_ref, e_append, e_insert, e_popAt, e_pop0, e_join, e_seqI_val, e_cut_str, e_cut_tup, e_cut_lst, e_cut_fz, e_cut_ref, mChain, mAugS, mStar, mEnumK, e_isi, e_isi2, e_all, e_intS_str, e_intS_int, e_inS, e_split, e_ix_str, e_iadd, e_tru_non]
  refine ⟨by decide, fun p hpf => ?_⟩
  have nap : a ≠ p := ne_of_fresh (put_same (G := G) (a := a) (o := o2)) hpf
  have hGp : G p = none := by rwa [put_ne nap.symm] at hpf
  simp only [b_wide_4, mSeq, mIfS, mAsg, mRet, mRetN, mDrop, mTest, mOp, mC, mVar, mSetI, mNext, mCB, mCons, mNil, mAndT, mOrT, mNotT, mTruT, mIf, mNeg, mOr, mAnd, mNot, mLst, mTup, mBM, mBM0, mPar, mCall, mCallK, mLstRg1, mTupRg1, mRng1, mRng2, mEnum, mZipT, mFor, mSl, mNoPart, mPart, mLc, wipeM, List.set_cons_zero, List.set_cons_succ, startM, List.map_cons, List.map_nil, List.cons_append, List.nil_append, List.length_cons, List.length_nil, List.replicate, List.getElem?_cons_zero, List.getElem?_cons_succ, Option.some.injEq, Nat.reduceSub, Nat.reduceAdd, true_and, exists_eq_left, exists_eq_left', e_ix_tup, e_ix_lst, e_ix_fz, e_ix_ref, e_lo_lst, e_lo_fz, e_lo_ref, e_so_lst, e_so_fz, e_so_tup, e_so_ref, e_hd_lst, e_hd_ref, e_add_int, e_add_str, e_add_tup, e_add_lst, e_sub_int, e_mul_int, e_mul_lst, e_mul_tup, e_mod_int, e_fdv_int, e_pow_int, e_lt_int, e_le_int, e_gt_int, e_ge_int, e_eq_int, e_ne_int, e_eq_str, e_ne_str, e_isN, e_notN, e_isN_non, e_isN_int, e_isN_tup, e_isN_str, e_isN_ref, e_isN_lst, e_abs, e_max2, e_min2, e_int_int, e_int_bl, e_str_int, e_str_str, e_str_non, e_len_str, e_len_tup, e_len_lst, e_len_fz, e_len_ref, e_list_tup, e_list_lst, e_list_fz, e_list_ref, e_tupl_tup, e_tupl_lst, e_tupl_ref, e_newT, e_newF, e_run_nm, e_run_tp, e_runs_nil, e_runs_cons, e_tru_bl, e_tru_int, e_tru_str, e_tru_lst, e_tru_tup, e_ty_str, e_ty_lst, e_ty_ref, e_append, e_insert, e_popAt, e_pop0, e_join, e_seqI_val, e_cut_str, e_cut_tup, e_cut_lst, e_cut_fz, e_cut_ref, mChain, mAugS, mStar, mEnumK, e_isi, e_isi2, e_all, e_intS_str, e_intS_int, e_inS, e_split, e_ix_str, e_iadd, e_tru_non]
  refine ⟨⟨by omega, by omega⟩, loop_ind (fun i τ G' => (∃ v4 v5 v6 v7, τ = [some (.ref a), some (.int (n : Nat)), some (.int (t : Nat)), some (.ref p), v4, v5, v6, v7]) ∧ (∃ o', G' a = some o' ∧ Pen (m + 2 + 41 * i) o') ∧ (∃ rows, G' p = some (.lst rows) ∧ rows.length = i ∧ ∀ x ∈ rows, ∃ row, x = .tup row ∧ RowOk 40 (RefOk n) row) ∧ ∀ c u, c ≠ a → G c = some u → G' c = some u) ?_ ?_ ⟨⟨_, _, _, _, rfl⟩, ⟨o2, by rw [put_ne nap, put_same], p2⟩, ⟨[], put_same, rfl, fun _ h => nomatch h⟩, fun c u hc e => ?_⟩⟩
  · rintro i w τ G' N hw ⟨⟨v4, v5, v6, v7, rfl⟩, ⟨o', ga, pa⟩, ⟨rows, gp, rl, hr⟩, old⟩ hN
    obtain ⟨hi, rfl⟩ := rng_at hw
    have hi' : i < n := by simpa using hi
    refine ⟨trivial, ?_⟩
    simp only [b_wide_5, e_sp_draw, mSeq, mIfS, mAsg, mRet, mRetN, mDrop, mTest, mOp, mC, mVar, mSetI, mNext, mCB, mCons, mNil, mAndT, mOrT, mNotT, mTruT, mIf, mNeg, mOr, mAnd, mNot, mLst, mTup, mBM, mBM0, mPar, mCall, mCallK, mLstRg1, mTupRg1, mRng1, mRng2, mEnum, mZipT, mFor, mSl, mNoPart, mPart, mLc, wipeM, List.set_cons_zero, List.set_cons_succ, startM, List.map_cons, List.map_nil, List.cons_append, List.nil_append, List.length_cons, List.length_nil, List.replicate, List.getElem?_cons_zero, List.getElem?_cons_succ, Option.some.injEq, Nat.reduceSub, Nat.reduceAdd, true_and, exists_eq_left, exists_eq_left', e_ix_tup, e_ix_lst, e_ix_fz, e_ix_ref, e_lo_lst, e_lo_fz, e_lo_ref, e_so_lst, e_so_fz, e_so_tup, e_so_ref, e_hd_lst, e_hd_ref, e_add_int, e_add_str, e_add_tup, e_add_lst, e_sub_int, e_mul_int, e_mul_lst, e_mul_tup, e_mod_int, e_fdv_int, e_pow_int, e_lt_int, e_le_int, e_gt_int, e_ge_int, e_eq_int, e_ne_int, e_eq_str, e_ne_str, e_isN, e_notN, e_isN_non, e_isN_int, e_isN_tup, e_isN_str, e_isN_ref, e_isN_lst, e_abs, e_max2, e_min2, e_int_int, e_int_bl, e_str_int, e_str_str, e_str_non, e_len_str, e_len_tup, e_len_lst, e_len_fz, e_len_ref, e_list_tup, e_list_lst, e_list_fz, e_list_ref, e_tupl_tup, e_tupl_lst, e_tupl_ref, e_newT, e_newF, e_run_nm, e_run_tp, e_runs_nil, e_runs_cons, e_tru_bl, e_tru_int, e_tru_str, e_tru_lst, e_tru_tup, e_ty_str, e_ty_lst, e_ty_ref, e_append, e_insert, e_popAt, e_pop0, e_join, e_seqI_val, e_cut_str, e_cut_tup, e_cut_lst, e_cut_fz, e_cut_ref, mChain, mAugS, mStar, mEnumK, e_isi, e_isi2, e_all, e_intS_str, e_intS_int, e_inS, e_split, e_ix_str, e_iadd, e_tru_non]
    refine draw_at (E := noX) ga pa (by omega) (by omega) (by omega) fun c o3 c0 c1 p3 => ?_
    simp only [mSeq, mIfS, mAsg, mRet, mRetN, mDrop, mTest, mOp, mC, mVar, mSetI, mNext, mCB, mCons, mNil, mAndT, mOrT, mNotT, mTruT, mIf, mNeg, mOr, mAnd, mNot, mLst, mTup, mBM, mBM0, mPar, mCall, mCallK, mLstRg1, mTupRg1, mRng1, mRng2, mEnum, mZipT, mFor, mSl, mNoPart, mPart, mLc, wipeM, List.set_cons_zero, List.set_cons_succ, startM, List.map_cons, List.map_nil, List.cons_append, List.nil_append, List.length_cons, List.length_nil, List.replicate, List.getElem?_cons_zero, List.getElem?_cons_succ, Option.some.injEq, Nat.reduceSub, Nat.reduceAdd, true_and, exists_eq_left, exists_eq_left', e_ix_tup, e_ix_lst, e_ix_fz, e_ix_ref, e_lo_lst, e_lo_fz, e_lo_ref, e_so_lst, e_so_fz, e_so_tup, e_so_ref, e_hd_lst, e_hd_ref, e_add_int, e_add_str, e_add_tup, e_add_lst, e_sub_int, e_mul_int, e_mul_lst, e_mul_tup, e_mod_int, e_fdv_int, e_pow_int, e_lt_int, e_le_int, e_gt_int, e_ge_int, e_eq_int, e_ne_int, e_eq_str, e_ne_str, e_isN, e_notN, e_isN_non, e_isN_int, e_isN_tup, e_isN_str, e_isN_ref, e_isN_lst, e_abs, e_max2, e_min2, e_int_int, e_int_bl, e_str_int, e_str_str, e_str_non, e_len_str, e_len_tup, e_len_lst, e_len_fz, e_len_ref, e_list_tup, e_list_lst, e_list_fz, e_list_ref, e_tupl_tup, e_tupl_lst, e_tupl_ref, e_newT, e_newF, e_run_nm, e_run_tp, e_runs_nil, e_runs_cons, e_tru_bl, e_tru_int, e_tru_str, e_tru_lst, e_tru_tup, e_ty_str, e_ty_lst, e_ty_ref, e_append, e_insert, e_popAt, e_pop0, e_join, e_seqI_val, e_cut_str, e_cut_tup, e_cut_lst, e_cut_fz, e_cut_ref, mChain, mAugS, mStar, mEnumK, e_isi, e_isi2, e_all, e_intS_str, e_intS_int, e_inS, e_split, e_ix_str, e_iadd, e_tru_non]
    refine ⟨⟨by omega, by omega⟩, comp_ind (fun k acc G2 => (∃ o', G2 a = some o' ∧ Pen (m + 3 + 41 * i + k) o') ∧ G2 p = some (.lst rows) ∧ (∀ c u, c ≠ a → G c = some u → G2 c = some u) ∧ acc.length = k ∧ ∀ x ∈ acc, ∃ j : Int, x = .int j ∧ 0 ≤ j ∧ j ≤ (n : Int)) ?_ ?_ ⟨⟨o3, put_same, p3.mono (by omega)⟩, by rw [put_ne nap.symm]; exact gp, fun c u hc e => by rw [put_ne hc]; exact old c u hc e, rfl, fun _ h => nomatch h⟩⟩
    · rintro k w acc G2 N2 hw2 ⟨⟨o4, g4, p4⟩, gp2, old2, al, ain⟩ hN2
      obtain ⟨hk, rfl⟩ := rng_at hw2
      refine ⟨trivial, ?_⟩
      simp only [mYes, e_sp_draw, mSeq, mIfS, mAsg, mRet, mRetN, mDrop, mTest, mOp, mC, mVar, mSetI, mNext, mCB, mCons, mNil, mAndT, mOrT, mNotT, mTruT, mIf, mNeg, mOr, mAnd, mNot, mLst, mTup, mBM, mBM0, mPar, mCall, mCallK, mLstRg1, mTupRg1, mRng1, mRng2, mEnum, mZipT, mFor, mSl, mNoPart, mPart, mLc, wipeM, List.set_cons_zero, List.set_cons_succ, startM, List.map_cons, List.map_nil, List.cons_append, List.nil_append, List.length_cons, List.length_nil, List.replicate, List.getElem?_cons_zero, List.getElem?_cons_succ, Option.some.injEq, Nat.reduceSub, Nat.reduceAdd, true_and, exists_eq_left, exists_eq_left', e_ix_tup, e_ix_lst, e_ix_fz, e_ix_ref, e_lo_lst, e_lo_fz, e_lo_ref, e_so_lst, e_so_fz, e_so_tup, e_so_ref, e_hd_lst, e_hd_ref, e_add_int, e_add_str, e_add_tup, e_add_lst, e_sub_int, e_mul_int, e_mul_lst, e_mul_tup, e_mod_int, e_fdv_int, e_pow_int, e_lt_int, e_le_int, e_gt_int, e_ge_int, e_eq_int, e_ne_int, e_eq_str, e_ne_str, e_isN, e_notN, e_isN_non, e_isN_int, e_isN_tup, e_isN_str, e_isN_ref, e_isN_lst, e_abs, e_max2, e_min2, e_int_int, e_int_bl, e_str_int, e_str_str, e_str_non, e_len_str, e_len_tup, e_len_lst, e_len_fz, e_len_ref, e_list_tup, e_list_lst, e_list_fz, e_list_ref, e_tupl_tup, e_tupl_lst, e_tupl_ref, e_newT, e_newF, e_run_nm, e_run_tp, e_runs_nil, e_runs_cons, e_tru_bl, e_tru_int, e_tru_str, e_tru_lst, e_tru_tup, e_ty_str, e_ty_lst, e_ty_ref, e_append, e_insert, e_popAt, e_pop0, e_join, e_seqI_val, e_cut_str, e_cut_tup, e_cut_lst, e_cut_fz, e_cut_ref, mChain, mAugS, mStar, mEnumK, e_isi, e_isi2, e_all, e_intS_str, e_intS_int, e_inS, e_split, e_ix_str, e_iadd, e_tru_non]
      refine draw_at (E := noX) g4 p4 (by omega) (by omega) (by omega) fun z o5 z0 z1 p5 => ⟨by omega, hN2 _ _ ⟨⟨o5, put_same, p5.mono (by omega)⟩, by rw [put_ne nap.symm]; exact gp2, fun c u hc e => by rw [put_ne hc]; exact old2 c u hc e, by rw [List.length_append, al]; rfl, fun x hx => ?_⟩⟩
      rcases List.mem_append.mp hx with hx | hx
      · exact ain x hx
      · rw [List.mem_singleton] at hx; subst hx; exact ⟨z, rfl, z0, by omega⟩
    · rintro acc G2 ⟨⟨o4, g4, p4⟩, gp2, old2, al, ain⟩
      rw [rng_len] at al p4
      refine ⟨trivial, ?_⟩
      have al40 : acc.length ≤ 40 := by omega
      simp only [b_wide_6, e_seqI_val, mSeq, mIfS, mAsg, mRet, mRetN, mDrop, mTest, mOp, mC, mVar, mSetI, mNext, mCB, mCons, mNil, mAndT, mOrT, mNotT, mTruT, mIf, mNeg, mOr, mAnd, mNot, mLst, mTup, mBM, mBM0, mPar, mCall, mCallK, mLstRg1, mTupRg1, mRng1, mRng2, mEnum, mZipT, mFor, mSl, mNoPart, mPart, mLc, wipeM, List.set_cons_zero, List.set_cons_succ, startM, List.map_cons, List.map_nil, List.cons_append, List.nil_append, List.length_cons, List.length_nil, List.replicate, List.getElem?_cons_zero, List.getElem?_cons_succ, Option.some.injEq, Nat.reduceSub, Nat.reduceAdd, true_and, exists_eq_left, exists_eq_left', e_ix_tup, e_ix_lst, e_ix_fz, e_ix_ref, e_lo_lst, e_lo_fz, e_lo_ref, e_so_lst, e_so_fz, e_so_tup, e_so_ref, e_hd_lst, e_hd_ref, e_add_int, e_add_str, e_add_tup, e_add_lst, e_sub_int, e_mul_int, e_mul_lst, e_mul_tup, e_mod_int, e_fdv_int, e_pow_int, e_lt_int, e_le_int, e_gt_int, e_ge_int, e_eq_int, e_ne_int, e_eq_str, e_ne_str, e_isN, e_notN, e_isN_non, e_isN_int, e_isN_tup, e_isN_str, e_isN_ref, e_isN_lst, e_abs, e_max2, e_min2, e_int_int, e_int_bl, e_str_int, e_str_str, e_str_non, e_len_str, e_len_tup, e_len_lst, e_len_fz, e_len_ref, e_list_tup, e_list_lst, e_list_fz, e_list_ref, e_tupl_tup, e_tupl_lst, e_tupl_ref, e_newT, e_newF, e_run_nm, e_run_tp, e_runs_nil, e_runs_cons, e_tru_bl, e_tru_int, e_tru_str, e_tru_lst, e_tru_tup, e_ty_str, e_ty_lst, e_ty_ref, e_append, e_insert, e_popAt, e_pop0, e_join, e_seqI_val, e_cut_str, e_cut_tup, e_cut_lst, e_cut_fz, e_cut_ref, mChain, mAugS, mStar, mEnumK, e_isi, e_isi2, e_all, e_intS_str, e_intS_int, e_inS, e_split, e_ix_str, e_iadd, e_tru_non]
      refine ⟨⟨_, gp2⟩, comp_map (cutN n) (by omega) trivial (fun x rr hx hr' => ?_) ?_⟩
      · obtain ⟨j, rfl, j0, j1⟩ := ain x hx
        have hr2 : rr (if j = (n : Int) then .non else .int j) G2 := hr'
        simp only [mSeq, mIfS, mAsg, mRet, mRetN, mDrop, mTest, mOp, mC, mVar, mSetI, mNext, mCB, mCons, mNil, mAndT, mOrT, mNotT, mTruT, mIf, mNeg, mOr, mAnd, mNot, mLst, mTup, mBM, mBM0, mPar, mCall, mCallK, mLstRg1, mTupRg1, mRng1, mRng2, mEnum, mZipT, mFor, mSl, mNoPart, mPart, mLc, wipeM, List.set_cons_zero, List.set_cons_succ, startM, List.map_cons, List.map_nil, List.cons_append, List.nil_append, List.length_cons, List.length_nil, List.replicate, List.getElem?_cons_zero, List.getElem?_cons_succ, Option.some.injEq, Nat.reduceSub, Nat.reduceAdd, true_and, exists_eq_left, exists_eq_left', e_ix_tup, e_ix_lst, e_ix_fz, e_ix_ref, e_lo_lst, e_lo_fz, e_lo_ref, e_so_lst, e_so_fz, e_so_tup, e_so_ref, e_hd_lst, e_hd_ref, e_add_int, e_add_str, e_add_tup, e_add_lst, e_sub_int, e_mul_int, e_mul_lst, e_mul_tup, e_mod_int, e_fdv_int, e_pow_int, e_lt_int, e_le_int, e_gt_int, e_ge_int, e_eq_int, e_ne_int, e_eq_str, e_ne_str, e_isN, e_notN, e_isN_non, e_isN_int, e_isN_tup, e_isN_str, e_isN_ref, e_isN_lst, e_abs, e_max2, e_min2, e_int_int, e_int_bl, e_str_int, e_str_str, e_str_non, e_len_str, e_len_tup, e_len_lst, e_len_fz, e_len_ref, e_list_tup, e_list_lst, e_list_fz, e_list_ref, e_tupl_tup, e_tupl_lst, e_tupl_ref, e_newT, e_newF, e_run_nm, e_run_tp, e_runs_nil, e_runs_cons, e_tru_bl, e_tru_int, e_tru_str, e_tru_lst, e_tru_tup, e_ty_str, e_ty_lst, e_ty_ref, e_append, e_insert, e_popAt, e_pop0, e_join, e_seqI_val, e_cut_str, e_cut_tup, e_cut_lst, e_cut_fz, e_cut_ref, mChain, mAugS, mStar, mEnumK, e_isi, e_isi2, e_all, e_intS_str, e_intS_int, e_inS, e_split, e_ix_str, e_iadd, e_tru_non]
        by_cases hj : j = (n : Int)
        · rw [if_pos hj] at hr2
          simp only [hj, decide_true]; exact hr2
        · rw [if_neg hj] at hr2
          simp only [hj, decide_false]; exact hr2
      · refine ⟨_, gp2, by omega, hN _ _ ⟨⟨_, _, _, _, rfl⟩, ⟨o4, by rw [put_ne nap]; exact g4, p4.mono (by omega)⟩, ⟨_, put_same, by rw [List.length_append, rl]; rfl, fun x hx => ?_⟩, fun c u hc e => ?_⟩⟩
        · rcases List.mem_append.mp hx with hx | hx
          · exact hr x hx
          · rw [List.mem_singleton] at hx; subst hx
            refine ⟨_, rfl, by rw [List.length_map]; exact al40, fun y hy => ?_⟩
            obtain ⟨x, hx, rfl⟩ := List.mem_map.mp hy
            obtain ⟨j, rfl, j0, j1⟩ := ain x hx
            show RefOk n (if j = (n : Int) then .non else .int j)
            by_cases hj : j = (n : Int)
            · rw [if_pos hj]; exact .inl rfl
            · rw [if_neg hj]; exact .inr ⟨j, rfl, j0, by omega⟩
        · have : c ≠ p := fun z => by subst z; rw [hGp] at e; cases e
          rw [put_ne this]; exact old2 c u hc e
  · rintro τ G' ⟨⟨v4, v5, v6, v7, rfl⟩, ⟨o', ga, pa⟩, ⟨rows, gp, rl, hr⟩, old⟩
    rw [rng_len] at pa rl
    have rl' : rows.length = n := by omega
    refine ⟨trivial, ?_⟩
    simp only [b_wide_7, mSeq, mIfS, mAsg, mRet, mRetN, mDrop, mTest, mOp, mC, mVar, mSetI, mNext, mCB, mCons, mNil, mAndT, mOrT, mNotT, mTruT, mIf, mNeg, mOr, mAnd, mNot, mLst, mTup, mBM, mBM0, mPar, mCall, mCallK, mLstRg1, mTupRg1, mRng1, mRng2, mEnum, mZipT, mFor, mSl, mNoPart, mPart, mLc, wipeM, List.set_cons_zero, List.set_cons_succ, startM, List.map_cons, List.map_nil, List.cons_append, List.nil_append, List.length_cons, List.length_nil, List.replicate, List.getElem?_cons_zero, List.getElem?_cons_succ, Option.some.injEq, Nat.reduceSub, Nat.reduceAdd, true_and, exists_eq_left, exists_eq_left', e_ix_tup, e_ix_lst, e_ix_fz, e_ix_ref, e_lo_lst, e_lo_fz, e_lo_ref, e_so_lst, e_so_fz, e_so_tup, e_so_ref, e_hd_lst, e_hd_ref, e_add_int, e_add_str, e_add_tup, e_add_lst, e_sub_int, e_mul_int, e_mul_lst, e_mul_tup, e_mod_int, e_fdv_int, e_pow_int, e_lt_int, e_le_int, e_gt_int, e_ge_int, e_eq_int, e_ne_int, e_eq_str, e_ne_str, e_isN, e_notN, e_isN_non, e_isN_int, e_isN_tup, e_isN_str, e_isN_ref, e_isN_lst, e_abs, e_max2, e_min2, e_int_int, e_int_bl, e_str_int, e_str_str, e_str_non, e_len_str, e_len_tup, e_len_lst, e_len_fz, e_len_ref, e_list_tup, e_list_lst, e_list_fz, e_list_ref, e_tupl_tup, e_tupl_lst, e_tupl_ref, e_newT, e_newF, e_run_nm, e_run_tp, e_runs_nil, e_runs_cons, e_tru_bl, e_tru_int, e_tru_str, e_tru_lst, e_tru_tup, e_ty_str, e_ty_lst, e_ty_ref, e_append, e_insert, e_popAt, e_pop0, e_join, e_seqI_val, e_cut_str, e_cut_tup, e_cut_lst, e_cut_fz, e_cut_ref, mChain, mAugS, mStar, mEnumK, e_isi, e_isi2, e_all, e_intS_str, e_intS_int, e_inS, e_split, e_ix_str, e_iadd, e_tru_non]
    refine ⟨rows, gp, ⟨by omega, by omega⟩, comp_ind (fun k acc G2 => (∃ o', G2 a = some o' ∧ Pen (m + 1700 + k) o') ∧ (∀ c u, c ≠ a → G c = some u → G2 c = some u) ∧ acc.length = k ∧ ∀ x ∈ acc, ∃ j : Int, x = .int j ∧ 1 ≤ j ∧ j ≤ 9) ?_ ?_ ⟨⟨o', ga, pa.mono (by omega)⟩, old, rfl, fun _ h => nomatch h⟩⟩
    · rintro k w acc G2 N2 hw2 ⟨⟨o4, g4, p4⟩, old2, al, ain⟩ hN2
      obtain ⟨hk, rfl⟩ := rng_at hw2
      refine ⟨trivial, ?_⟩
      simp only [mYes, e_sp_draw, mSeq, mIfS, mAsg, mRet, mRetN, mDrop, mTest, mOp, mC, mVar, mSetI, mNext, mCB, mCons, mNil, mAndT, mOrT, mNotT, mTruT, mIf, mNeg, mOr, mAnd, mNot, mLst, mTup, mBM, mBM0, mPar, mCall, mCallK, mLstRg1, mTupRg1, mRng1, mRng2, mEnum, mZipT, mFor, mSl, mNoPart, mPart, mLc, wipeM, List.set_cons_zero, List.set_cons_succ, startM, List.map_cons, List.map_nil, List.cons_append, List.nil_append, List.length_cons, List.length_nil, List.replicate, List.getElem?_cons_zero, List.getElem?_cons_succ, Option.some.injEq, Nat.reduceSub, Nat.reduceAdd, true_and, exists_eq_left, exists_eq_left', e_ix_tup, e_ix_lst, e_ix_fz, e_ix_ref, e_lo_lst, e_lo_fz, e_lo_ref, e_so_lst, e_so_fz, e_so_tup, e_so_ref, e_hd_lst, e_hd_ref, e_add_int, e_add_str, e_add_tup, e_add_lst, e_sub_int, e_mul_int, e_mul_lst, e_mul_tup, e_mod_int, e_fdv_int, e_pow_int, e_lt_int, e_le_int, e_gt_int, e_ge_int, e_eq_int, e_ne_int, e_eq_str, e_ne_str, e_isN, e_notN, e_isN_non, e_isN_int, e_isN_tup, e_isN_str, e_isN_ref, e_isN_lst, e_abs, e_max2, e_min2, e_int_int, e_int_bl, e_str_int, e_str_str, e_str_non, e_len_str, e_len_tup, e_len_lst, e_len_fz, e_len_ref, e_list_tup, e_list_lst, e_list_fz, e_list_ref, e_tupl_tup, e_tupl_lst, e_tupl_ref, e_newT, e_newF, e_run_nm, e_run_tp, e_runs_nil, e_runs_cons, e_tru_bl, e_tru_int, e_tru_str, e_tru_lst, e_tru_tup, e_ty_str, e_ty_lst, e_ty_ref, e_append, e_insert, e_popAt, e_pop0, e_join, e_seqI_val, e_cut_str, e_cut_tup, e_cut_lst, e_cut_fz, e_cut_ref, mChain, mAugS, mStar, mEnumK, e_isi, e_isi2, e_all, e_intS_str, e_intS_int, e_inS, e_split, e_ix_str, e_iadd, e_tru_non]
      refine draw_at (E := noX) g4 p4 (by omega) (by omega) (by omega) fun z o5 z0 z1 p5 => ⟨by omega, hN2 _ _ ⟨⟨o5, put_same, p5.mono (by omega)⟩, fun c u hc e => by rw [put_ne hc]; exact old2 c u hc e, by rw [List.length_append, al]; rfl, fun x hx => ?_⟩⟩
      rcases List.mem_append.mp hx with hx | hx
      · exact ain x hx
      · rw [List.mem_singleton] at hx; subst hx; exact ⟨_, rfl, by omega, by omega⟩
    · rintro acc G2 ⟨⟨o4, g4, p4⟩, old2, al, ain⟩
      rw [rng_len] at al p4
      refine ⟨trivial, ?_⟩
      have hh : HeapOk rows acc := ⟨by omega, by omega, fun x hx => by
        obtain ⟨row, rfl, ok⟩ := hr x hx
        rw [rl']
        exact .inr ⟨row, rfl, ok⟩, fun x hx => by obtain ⟨j, rfl, j0, j1⟩ := ain x hx; exact ⟨j, rfl, by omega, j1⟩⟩
      have hc : Counted rows acc := fun v x hx => by
        obtain ⟨row, rfl, _⟩ := hr x (List.mem_of_getElem? hx)
        refine ⟨fun z => (nomatch z), fun _ => .inl fun z => ?_⟩
        obtain ⟨j, ej, j0, _⟩ := ain _ (List.mem_of_getElem? z)
        cases ej
        omega
      exact ⟨by decide, less_of (sub_of g4 old2) (kq _ o4 ⟨rows, acc, rfl, hh, hc⟩ (p4.mono (by omega)))⟩
  · have : c ≠ p := fun z => by subst z; rw [hGp] at e; cases e
    rw [put_ne this, put_ne hc]; exact e
theorem law_law (x0 : D) (G : Gp) (q : MK) (h : p_law x0 G q) : b_law { nx := fun _ G' => less q .non G', rt := less q } (startM ["_law_script", "_law_pen_here", "_law_full", "_law_homes", "_law_home", "_law_page"] [x0]) G := by
  obtain ⟨ns, rfl, hq⟩ := h
  have hss := sizeLine_eq
  simp only [b_law, e_sp_pen, mSeq, mIfS, mAsg, mRet, mRetN, mDrop, mTest, mOp, mC, mVar, mSetI, mNext, mCB, mCons, mNil, mAndT, mOrT, mNotT, mTruT, mIf, mNeg, mOr, mAnd, mNot, mLst, mTup, mBM, mBM0, mPar, mCall, mCallK, mLstRg1, mTupRg1, mRng1, mRng2, mEnum, mZipT, mFor, mSl, mNoPart, mPart, mLc, wipeM, List.set_cons_zero, List.set_cons_succ, startM, List.map_cons, List.map_nil, List.cons_append, List.nil_append, List.length_cons, List.length_nil, List.replicate, List.getElem?_cons_zero, List.getElem?_cons_succ, Option.some.injEq, Nat.reduceSub, Nat.reduceAdd, true_and, exists_eq_left, exists_eq_left', e_ix_tup, e_ix_lst, e_ix_fz, e_ix_ref, e_lo_lst, e_lo_fz, e_lo_ref, e_so_lst, e_so_fz, e_so_tup, e_so_ref, e_hd_lst, e_hd_ref, e_add_int, e_add_str, e_add_tup, e_add_lst, e_sub_int, e_mul_int, e_mul_lst, e_mul_tup, e_mod_int, e_fdv_int, e_pow_int, e_lt_int, e_le_int, e_gt_int, e_ge_int, e_eq_int, e_ne_int, e_eq_str, e_ne_str, e_isN, e_notN, e_isN_non, e_isN_int, e_isN_tup, e_isN_str, e_isN_ref, e_isN_lst, e_abs, e_max2, e_min2, e_int_int, e_int_bl, e_str_int, e_str_str, e_str_non, e_len_str, e_len_tup, e_len_lst, e_len_fz, e_len_ref, e_list_tup, e_list_lst, e_list_fz, e_list_ref, e_tupl_tup, e_tupl_lst, e_tupl_ref, e_newT, e_newF, e_run_nm, e_run_tp, e_runs_nil, e_runs_cons, e_tru_bl, e_tru_int, e_tru_str, e_tru_lst, e_tru_tup, e_ty_str, e_ty_lst, e_ty_ref, e_append, e_insert, e_popAt, e_pop0, e_join, e_seqI_val, e_cut_str, e_cut_tup, e_cut_lst, e_cut_fz, e_cut_ref, mChain, mAugS, mStar, mEnumK, e_isi, e_isi2, e_all, e_intS_str, e_intS_int, e_inS, e_split, e_ix_str, e_iadd, e_tru_non]
  refine ⟨ns, rfl, fun a o ha p0 => ?_⟩
  simp only [b_law_2, mSeq, mIfS, mAsg, mRet, mRetN, mDrop, mTest, mOp, mC, mVar, mSetI, mNext, mCB, mCons, mNil, mAndT, mOrT, mNotT, mTruT, mIf, mNeg, mOr, mAnd, mNot, mLst, mTup, mBM, mBM0, mPar, mCall, mCallK, mLstRg1, mTupRg1, mRng1, mRng2, mEnum, mZipT, mFor, mSl, mNoPart, mPart, mLc, wipeM, List.set_cons_zero, List.set_cons_succ, startM, List.map_cons, List.map_nil, List.cons_append, List.nil_append, List.length_cons, List.length_nil, List.replicate, List.getElem?_cons_zero, List.getElem?_cons_succ, Option.some.injEq, Nat.reduceSub, Nat.reduceAdd, true_and, exists_eq_left, exists_eq_left', e_ix_tup, e_ix_lst, e_ix_fz, e_ix_ref, e_lo_lst, e_lo_fz, e_lo_ref, e_so_lst, e_so_fz, e_so_tup, e_so_ref, e_hd_lst, e_hd_ref, e_add_int, e_add_str, e_add_tup, e_add_lst, e_sub_int, e_mul_int, e_mul_lst, e_mul_tup, e_mod_int, e_fdv_int, e_pow_int, e_lt_int, e_le_int, e_gt_int, e_ge_int, e_eq_int, e_ne_int, e_eq_str, e_ne_str, e_isN, e_notN, e_isN_non, e_isN_int, e_isN_tup, e_isN_str, e_isN_ref, e_isN_lst, e_abs, e_max2, e_min2, e_int_int, e_int_bl, e_str_int, e_str_str, e_str_non, e_len_str, e_len_tup, e_len_lst, e_len_fz, e_len_ref, e_list_tup, e_list_lst, e_list_fz, e_list_ref, e_tupl_tup, e_tupl_lst, e_tupl_ref, e_newT, e_newF, e_run_nm, e_run_tp, e_runs_nil, e_runs_cons, e_tru_bl, e_tru_int, e_tru_str, e_tru_lst, e_tru_tup, e_ty_str, e_ty_lst, e_ty_ref, e_append, e_insert, e_popAt, e_pop0, e_join, e_seqI_val, e_cut_str, e_cut_tup, e_cut_lst, e_cut_fz, e_cut_ref, mChain, mAugS, mStar, mEnumK, e_isi, e_isi2, e_all, e_intS_str, e_intS_int, e_inS, e_split, e_ix_str, e_iadd, e_tru_non]
  refine ⟨⟨by decide, by decide, by decide, by decide, by decide⟩, by decide, ⟨by simp, by decide, by decide, by decide⟩, by decide, ⟨by simp, by decide, by decide, by decide⟩, by decide, ?_⟩
  have e40 : (40 : Int).toNat = 40 := rfl
  rw [e40]
  have hr := rep_len (d := D.tup (rng 0 40)) (k := 40)
  have hr0 := rep_len (d := D.int 0) (k := 40)
  have full : HomeOk (.tup [.tup (List.replicate 40 [D.tup (rng 0 40)]).flatten, .tup (List.replicate 40 [D.int 0]).flatten]) := by
    have ok : HeapOk (List.replicate 40 [D.tup (rng 0 40)]).flatten (List.replicate 40 [D.int 0]).flatten := by
      refine ⟨by rw [hr, hr0], by rw [hr]; exact Nat.le_refl _, fun x hx => ?_, fun x hx => ⟨0, rep_mem hx, by decide, by decide⟩⟩
      rw [rep_mem hx, hr]
      exact .inr ⟨_, rfl, rng_ok (Nat.le_refl _)⟩
    refine ⟨_, _, rfl, ok, fun v x hx => ?_⟩
    have hv : v < 40 := by have := (List.getElem?_eq_some_iff.mp hx).1; rwa [hr] at this
    have ex := rep_mem (List.mem_of_getElem? hx)
    subst ex
    refine ⟨fun z => (nomatch z), fun _ => .inr ⟨_, List.mem_of_getElem? hx, ?_⟩⟩
    have := rng_get (lo := 0) (n := 40) (i := v)
    rw [if_pos hv, Int.zero_add] at this
    exact List.mem_of_getElem? this
  revert full
  generalize (D.tup [.tup (List.replicate 40 [D.tup (rng 0 40)]).flatten, .tup (List.replicate 40 [D.int 0]).flatten]) = F
  intro full
  simp only [b_law_3, e_sp_heap, mSeq, mIfS, mAsg, mRet, mRetN, mDrop, mTest, mOp, mC, mVar, mSetI, mNext, mCB, mCons, mNil, mAndT, mOrT, mNotT, mTruT, mIf, mNeg, mOr, mAnd, mNot, mLst, mTup, mBM, mBM0, mPar, mCall, mCallK, mLstRg1, mTupRg1, mRng1, mRng2, mEnum, mZipT, mFor, mSl, mNoPart, mPart, mLc, wipeM, List.set_cons_zero, List.set_cons_succ, startM, List.map_cons, List.map_nil, List.cons_append, List.nil_append, List.length_cons, List.length_nil, List.replicate, List.getElem?_cons_zero, List.getElem?_cons_succ, Option.some.injEq, Nat.reduceSub, Nat.reduceAdd, true_and, exists_eq_left, exists_eq_left', e_ix_tup, e_ix_lst, e_ix_fz, e_ix_ref, e_lo_lst, e_lo_fz, e_lo_ref, e_so_lst, e_so_fz, e_so_tup, e_so_ref, e_hd_lst, e_hd_ref, e_add_int, e_add_str, e_add_tup, e_add_lst, e_sub_int, e_mul_int, e_mul_lst, e_mul_tup, e_mod_int, e_fdv_int, e_pow_int, e_lt_int, e_le_int, e_gt_int, e_ge_int, e_eq_int, e_ne_int, e_eq_str, e_ne_str, e_isN, e_notN, e_isN_non, e_isN_int, e_isN_tup, e_isN_str, e_isN_ref, e_isN_lst, e_abs, e_max2, e_min2, e_int_int, e_int_bl, e_str_int, e_str_str, e_str_non, e_len_str, e_len_tup, e_len_lst, e_len_fz, e_len_ref, e_list_tup, e_list_lst, e_list_fz, e_list_ref, e_tupl_tup, e_tupl_lst, e_tupl_ref, e_newT, e_newF, e_run_nm, e_run_tp, e_runs_nil, e_runs_cons, e_tru_bl, e_tru_int, e_tru_str, e_tru_lst, e_tru_tup, e_ty_str, e_ty_lst, e_ty_ref, e_append, e_insert, e_popAt, e_pop0, e_join, e_seqI_val, e_cut_str, e_cut_tup, e_cut_lst, e_cut_fz, e_cut_ref, mChain, mAugS, mStar, mEnumK, e_isi, e_isi2, e_all, e_intS_str, e_intS_int, e_inS, e_split, e_ix_str, e_iadd, e_tru_non]
  refine ⟨a, 12, 0, o, rfl, rfl, by decide, by decide, put_same, p0, by decide, fun s1 u1 t1 o1 hh1 hc1 p1 => ?_⟩
  simp only [mSeq, mIfS, mAsg, mRet, mRetN, mDrop, mTest, mOp, mC, mVar, mSetI, mNext, mCB, mCons, mNil, mAndT, mOrT, mNotT, mTruT, mIf, mNeg, mOr, mAnd, mNot, mLst, mTup, mBM, mBM0, mPar, mCall, mCallK, mLstRg1, mTupRg1, mRng1, mRng2, mEnum, mZipT, mFor, mSl, mNoPart, mPart, mLc, wipeM, List.set_cons_zero, List.set_cons_succ, startM, List.map_cons, List.map_nil, List.cons_append, List.nil_append, List.length_cons, List.length_nil, List.replicate, List.getElem?_cons_zero, List.getElem?_cons_succ, Option.some.injEq, Nat.reduceSub, Nat.reduceAdd, true_and, exists_eq_left, exists_eq_left', e_ix_tup, e_ix_lst, e_ix_fz, e_ix_ref, e_lo_lst, e_lo_fz, e_lo_ref, e_so_lst, e_so_fz, e_so_tup, e_so_ref, e_hd_lst, e_hd_ref, e_add_int, e_add_str, e_add_tup, e_add_lst, e_sub_int, e_mul_int, e_mul_lst, e_mul_tup, e_mod_int, e_fdv_int, e_pow_int, e_lt_int, e_le_int, e_gt_int, e_ge_int, e_eq_int, e_ne_int, e_eq_str, e_ne_str, e_isN, e_notN, e_isN_non, e_isN_int, e_isN_tup, e_isN_str, e_isN_ref, e_isN_lst, e_abs, e_max2, e_min2, e_int_int, e_int_bl, e_str_int, e_str_str, e_str_non, e_len_str, e_len_tup, e_len_lst, e_len_fz, e_len_ref, e_list_tup, e_list_lst, e_list_fz, e_list_ref, e_tupl_tup, e_tupl_lst, e_tupl_ref, e_newT, e_newF, e_run_nm, e_run_tp, e_runs_nil, e_runs_cons, e_tru_bl, e_tru_int, e_tru_str, e_tru_lst, e_tru_tup, e_ty_str, e_ty_lst, e_ty_ref, e_append, e_insert, e_popAt, e_pop0, e_join, e_seqI_val, e_cut_str, e_cut_tup, e_cut_lst, e_cut_fz, e_cut_ref, mChain, mAugS, mStar, mEnumK, e_isi, e_isi2, e_all, e_intS_str, e_intS_int, e_inS, e_split, e_ix_str, e_iadd, e_tru_non]
  refine ⟨_, rfl, a, 40, 2000, o1, rfl, rfl, by decide, by decide, put_same, p1, by decide, fun s2 u2 t2 o2 hh2 hc2 p2 => ?_⟩
  simp only [e_sp_wide, mSeq, mIfS, mAsg, mRet, mRetN, mDrop, mTest, mOp, mC, mVar, mSetI, mNext, mCB, mCons, mNil, mAndT, mOrT, mNotT, mTruT, mIf, mNeg, mOr, mAnd, mNot, mLst, mTup, mBM, mBM0, mPar, mCall, mCallK, mLstRg1, mTupRg1, mRng1, mRng2, mEnum, mZipT, mFor, mSl, mNoPart, mPart, mLc, wipeM, List.set_cons_zero, List.set_cons_succ, startM, List.map_cons, List.map_nil, List.cons_append, List.nil_append, List.length_cons, List.length_nil, List.replicate, List.getElem?_cons_zero, List.getElem?_cons_succ, Option.some.injEq, Nat.reduceSub, Nat.reduceAdd, true_and, exists_eq_left, exists_eq_left', e_ix_tup, e_ix_lst, e_ix_fz, e_ix_ref, e_lo_lst, e_lo_fz, e_lo_ref, e_so_lst, e_so_fz, e_so_tup, e_so_ref, e_hd_lst, e_hd_ref, e_add_int, e_add_str, e_add_tup, e_add_lst, e_sub_int, e_mul_int, e_mul_lst, e_mul_tup, e_mod_int, e_fdv_int, e_pow_int, e_lt_int, e_le_int, e_gt_int, e_ge_int, e_eq_int, e_ne_int, e_eq_str, e_ne_str, e_isN, e_notN, e_isN_non, e_isN_int, e_isN_tup, e_isN_str, e_isN_ref, e_isN_lst, e_abs, e_max2, e_min2, e_int_int, e_int_bl, e_str_int, e_str_str, e_str_non, e_len_str, e_len_tup, e_len_lst, e_len_fz, e_len_ref, e_list_tup, e_list_lst, e_list_fz, e_list_ref, e_tupl_tup, e_tupl_lst, e_tupl_ref, e_newT, e_newF, e_run_nm, e_run_tp, e_runs_nil, e_runs_cons, e_tru_bl, e_tru_int, e_tru_str, e_tru_lst, e_tru_tup, e_ty_str, e_ty_lst, e_ty_ref, e_append, e_insert, e_popAt, e_pop0, e_join, e_seqI_val, e_cut_str, e_cut_tup, e_cut_lst, e_cut_fz, e_cut_ref, mChain, mAugS, mStar, mEnumK, e_isi, e_isi2, e_all, e_intS_str, e_intS_int, e_inS, e_split, e_ix_str, e_iadd, e_tru_non]
  refine ⟨_, rfl, a, 4000, o2, rfl, put_same, p2, by decide, fun h3 o3 hh3 p3 => ?_⟩
  refine ⟨by decide, ?_⟩
  simp only [b_law_4, mSeq, mIfS, mAsg, mRet, mRetN, mDrop, mTest, mOp, mC, mVar, mSetI, mNext, mCB, mCons, mNil, mAndT, mOrT, mNotT, mTruT, mIf, mNeg, mOr, mAnd, mNot, mLst, mTup, mBM, mBM0, mPar, mCall, mCallK, mLstRg1, mTupRg1, mRng1, mRng2, mEnum, mZipT, mFor, mSl, mNoPart, mPart, mLc, wipeM, List.set_cons_zero, List.set_cons_succ, startM, List.map_cons, List.map_nil, List.cons_append, List.nil_append, List.length_cons, List.length_nil, List.replicate, List.getElem?_cons_zero, List.getElem?_cons_succ, Option.some.injEq, Nat.reduceSub, Nat.reduceAdd, true_and, exists_eq_left, exists_eq_left', e_ix_tup, e_ix_lst, e_ix_fz, e_ix_ref, e_lo_lst, e_lo_fz, e_lo_ref, e_so_lst, e_so_fz, e_so_tup, e_so_ref, e_hd_lst, e_hd_ref, e_add_int, e_add_str, e_add_tup, e_add_lst, e_sub_int, e_mul_int, e_mul_lst, e_mul_tup, e_mod_int, e_fdv_int, e_pow_int, e_lt_int, e_le_int, e_gt_int, e_ge_int, e_eq_int, e_ne_int, e_eq_str, e_ne_str, e_isN, e_notN, e_isN_non, e_isN_int, e_isN_tup, e_isN_str, e_isN_ref, e_isN_lst, e_abs, e_max2, e_min2, e_int_int, e_int_bl, e_str_int, e_str_str, e_str_non, e_len_str, e_len_tup, e_len_lst, e_len_fz, e_len_ref, e_list_tup, e_list_lst, e_list_fz, e_list_ref, e_tupl_tup, e_tupl_lst, e_tupl_ref, e_newT, e_newF, e_run_nm, e_run_tp, e_runs_nil, e_runs_cons, e_tru_bl, e_tru_int, e_tru_str, e_tru_lst, e_tru_tup, e_ty_str, e_ty_lst, e_ty_ref, e_append, e_insert, e_popAt, e_pop0, e_join, e_seqI_val, e_cut_str, e_cut_tup, e_cut_lst, e_cut_fz, e_cut_ref, mChain, mAugS, mStar, mEnumK, e_isi, e_isi2, e_all, e_intS_str, e_intS_int, e_inS, e_split, e_ix_str, e_iadd, e_tru_non]
  have d : ∀ k : Nat, k ≤ 16777216 → k ≤ sizeLine := fun k hk => by omega
  refine ⟨d _ (by decide), d _ (by decide), d _ (by decide), d _ (by decide), d _ (by decide), d _ (by decide), d _ (by decide), d _ (by decide), d _ (by decide), d _ (by decide), d _ (by decide), _, _, rfl, rfl, d 7 (by decide), ?_⟩
  have all : ∀ x ∈ [D.tup [D.tup s1, D.tup u1], D.tup [D.tup s2, D.tup u2], h3, F] ++ [D.tup [D.tup [], D.tup []], D.tup [D.tup [D.non], D.tup [D.int 0]], D.tup [D.tup [D.tup []], D.tup [D.int 9]]], HomeOk x := by
    intro x hx
    simp only [List.mem_append, List.mem_cons, List.not_mem_nil, or_false] at hx
    rcases hx with (rfl | rfl | rfl | rfl) | (rfl | rfl | rfl)
    · exact ⟨s1, u1, rfl, hh1, hc1⟩
    · exact ⟨s2, u2, rfl, hh2, hc2⟩
    · exact hh3
    · exact full
    · exact ⟨[], [], rfl, ⟨rfl, Nat.zero_le _, fun _ h => (nomatch h), fun _ h => (nomatch h)⟩, fun v x h => by simp at h⟩
    · refine ⟨[.non], [.int 0], rfl, ⟨rfl, by decide, fun x hx => .inl (List.mem_singleton.mp hx), fun x hx => ⟨0, List.mem_singleton.mp hx, by decide, by decide⟩⟩, fun v x hx => ?_⟩
      have hv : v = 0 := by have := (List.getElem?_eq_some_iff.mp hx).1; simp only [List.length_cons, List.length_nil] at this; omega
      subst hv
      cases hx
      exact ⟨fun _ => ⟨rfl, fun ⟨row, hm, _⟩ => by rw [List.mem_singleton] at hm; cases hm⟩, fun z => absurd rfl z⟩
    · refine ⟨[.tup []], [.int 9], rfl, ⟨rfl, by decide, fun x hx => .inr ⟨[], List.mem_singleton.mp hx, Nat.zero_le _, fun _ h => (nomatch h)⟩, fun x hx => ⟨9, List.mem_singleton.mp hx, by decide, by decide⟩⟩, fun v x hx => ?_⟩
      have hv : v = 0 := by have := (List.getElem?_eq_some_iff.mp hx).1; simp only [List.length_cons, List.length_nil] at this; omega
      subst hv
      cases hx
      exact ⟨fun z => (nomatch z), fun _ => .inl fun z => by cases z⟩
  refine loop_ind (fun i τ G' => ∃ v4 v5, τ = [some (D.fz (ns.map D.int)), some (D.ref a), some F, some (D.lst [D.tup [D.tup s1, D.tup u1], D.tup [D.tup s2, D.tup u2], h3, F]), v4, v5]) ?_ ?_ ⟨_, _, rfl⟩
  · rintro i w τ G' N hw ⟨v4, v5, rfl⟩ hN
    refine ⟨trivial, ?_⟩
    obtain ⟨slots, outs, rfl, hh, hc⟩ := all w (List.mem_of_getElem? hw)
    have dh := dat_home hh
    have rp := repr_ok dh.1 (Nat.le_trans dh.2.1 (by decide)) (Nat.le_trans dh.2.2 (by decide))
    simp only [b_law_5, e_sp_heap_text, mSeq, mIfS, mAsg, mRet, mRetN, mDrop, mTest, mOp, mC, mVar, mSetI, mNext, mCB, mCons, mNil, mAndT, mOrT, mNotT, mTruT, mIf, mNeg, mOr, mAnd, mNot, mLst, mTup, mBM, mBM0, mPar, mCall, mCallK, mLstRg1, mTupRg1, mRng1, mRng2, mEnum, mZipT, mFor, mSl, mNoPart, mPart, mLc, wipeM, List.set_cons_zero, List.set_cons_succ, startM, List.map_cons, List.map_nil, List.cons_append, List.nil_append, List.length_cons, List.length_nil, List.replicate, List.getElem?_cons_zero, List.getElem?_cons_succ, Option.some.injEq, Nat.reduceSub, Nat.reduceAdd, true_and, exists_eq_left, exists_eq_left', e_ix_tup, e_ix_lst, e_ix_fz, e_ix_ref, e_lo_lst, e_lo_fz, e_lo_ref, e_so_lst, e_so_fz, e_so_tup, e_so_ref, e_hd_lst, e_hd_ref, e_add_int, e_add_str, e_add_tup, e_add_lst, e_sub_int, e_mul_int, e_mul_lst, e_mul_tup, e_mod_int, e_fdv_int, e_pow_int, e_lt_int, e_le_int, e_gt_int, e_ge_int, e_eq_int, e_ne_int, e_eq_str, e_ne_str, e_isN, e_notN, e_isN_non, e_isN_int, e_isN_tup, e_isN_str, e_isN_ref, e_isN_lst, e_abs, e_max2, e_min2, e_int_int, e_int_bl, e_str_int, e_str_str, e_str_non, e_len_str, e_len_tup, e_len_lst, e_len_fz, e_len_ref, e_list_tup, e_list_lst, e_list_fz, e_list_ref, e_tupl_tup, e_tupl_lst, e_tupl_ref, e_newT, e_newF, e_run_nm, e_run_tp, e_runs_nil, e_runs_cons, e_tru_bl, e_tru_int, e_tru_str, e_tru_lst, e_tru_tup, e_ty_str, e_ty_lst, e_ty_ref, e_append, e_insert, e_popAt, e_pop0, e_join, e_seqI_val, e_cut_str, e_cut_tup, e_cut_lst, e_cut_fz, e_cut_ref, mChain, mAugS, mStar, mEnumK, e_isi, e_isi2, e_all, e_intS_str, e_intS_int, e_inS, e_split, e_ix_str, e_iadd, e_tru_non]
    refine ⟨slots, outs, rfl, hh, ?_⟩
    simp only [b_law_6, e_sp_parse_heap, mSeq, mIfS, mAsg, mRet, mRetN, mDrop, mTest, mOp, mC, mVar, mSetI, mNext, mCB, mCons, mNil, mAndT, mOrT, mNotT, mTruT, mIf, mNeg, mOr, mAnd, mNot, mLst, mTup, mBM, mBM0, mPar, mCall, mCallK, mLstRg1, mTupRg1, mRng1, mRng2, mEnum, mZipT, mFor, mSl, mNoPart, mPart, mLc, wipeM, List.set_cons_zero, List.set_cons_succ, startM, List.map_cons, List.map_nil, List.cons_append, List.nil_append, List.length_cons, List.length_nil, List.replicate, List.getElem?_cons_zero, List.getElem?_cons_succ, Option.some.injEq, Nat.reduceSub, Nat.reduceAdd, true_and, exists_eq_left, exists_eq_left', e_ix_tup, e_ix_lst, e_ix_fz, e_ix_ref, e_lo_lst, e_lo_fz, e_lo_ref, e_so_lst, e_so_fz, e_so_tup, e_so_ref, e_hd_lst, e_hd_ref, e_add_int, e_add_str, e_add_tup, e_add_lst, e_sub_int, e_mul_int, e_mul_lst, e_mul_tup, e_mod_int, e_fdv_int, e_pow_int, e_lt_int, e_le_int, e_gt_int, e_ge_int, e_eq_int, e_ne_int, e_eq_str, e_ne_str, e_isN, e_notN, e_isN_non, e_isN_int, e_isN_tup, e_isN_str, e_isN_ref, e_isN_lst, e_abs, e_max2, e_min2, e_int_int, e_int_bl, e_str_int, e_str_str, e_str_non, e_len_str, e_len_tup, e_len_lst, e_len_fz, e_len_ref, e_list_tup, e_list_lst, e_list_fz, e_list_ref, e_tupl_tup, e_tupl_lst, e_tupl_ref, e_newT, e_newF, e_run_nm, e_run_tp, e_runs_nil, e_runs_cons, e_tru_bl, e_tru_int, e_tru_str, e_tru_lst, e_tru_tup, e_ty_str, e_ty_lst, e_ty_ref, e_append, e_insert, e_popAt, e_pop0, e_join, e_seqI_val, e_cut_str, e_cut_tup, e_cut_lst, e_cut_fz, e_cut_ref, mChain, mAugS, mStar, mEnumK, e_isi, e_isi2, e_all, e_intS_str, e_intS_int, e_inS, e_split, e_ix_str, e_iadd, e_tru_non]
    refine ⟨slots, outs, rfl, hh, hc, ?_⟩
    simp only [e_repr, mSeq, mIfS, mAsg, mRet, mRetN, mDrop, mTest, mOp, mC, mVar, mSetI, mNext, mCB, mCons, mNil, mAndT, mOrT, mNotT, mTruT, mIf, mNeg, mOr, mAnd, mNot, mLst, mTup, mBM, mBM0, mPar, mCall, mCallK, mLstRg1, mTupRg1, mRng1, mRng2, mEnum, mZipT, mFor, mSl, mNoPart, mPart, mLc, wipeM, List.set_cons_zero, List.set_cons_succ, startM, List.map_cons, List.map_nil, List.cons_append, List.nil_append, List.length_cons, List.length_nil, List.replicate, List.getElem?_cons_zero, List.getElem?_cons_succ, Option.some.injEq, Nat.reduceSub, Nat.reduceAdd, true_and, exists_eq_left, exists_eq_left', e_ix_tup, e_ix_lst, e_ix_fz, e_ix_ref, e_lo_lst, e_lo_fz, e_lo_ref, e_so_lst, e_so_fz, e_so_tup, e_so_ref, e_hd_lst, e_hd_ref, e_add_int, e_add_str, e_add_tup, e_add_lst, e_sub_int, e_mul_int, e_mul_lst, e_mul_tup, e_mod_int, e_fdv_int, e_pow_int, e_lt_int, e_le_int, e_gt_int, e_ge_int, e_eq_int, e_ne_int, e_eq_str, e_ne_str, e_isN, e_notN, e_isN_non, e_isN_int, e_isN_tup, e_isN_str, e_isN_ref, e_isN_lst, e_abs, e_max2, e_min2, e_int_int, e_int_bl, e_str_int, e_str_str, e_str_non, e_len_str, e_len_tup, e_len_lst, e_len_fz, e_len_ref, e_list_tup, e_list_lst, e_list_fz, e_list_ref, e_tupl_tup, e_tupl_lst, e_tupl_ref, e_newT, e_newF, e_run_nm, e_run_tp, e_runs_nil, e_runs_cons, e_tru_bl, e_tru_int, e_tru_str, e_tru_lst, e_tru_tup, e_ty_str, e_ty_lst, e_ty_ref, e_append, e_insert, e_popAt, e_pop0, e_join, e_seqI_val, e_cut_str, e_cut_tup, e_cut_lst, e_cut_fz, e_cut_ref, mChain, mAugS, mStar, mEnumK, e_isi, e_isi2, e_all, e_intS_str, e_intS_int, e_inS, e_split, e_ix_str, e_iadd, e_tru_non]
    refine ⟨rp, rp, ?_⟩
    simp only [decide_true, Bool.not_true, e_sp_parse_heap, mSeq, mIfS, mAsg, mRet, mRetN, mDrop, mTest, mOp, mC, mVar, mSetI, mNext, mCB, mCons, mNil, mAndT, mOrT, mNotT, mTruT, mIf, mNeg, mOr, mAnd, mNot, mLst, mTup, mBM, mBM0, mPar, mCall, mCallK, mLstRg1, mTupRg1, mRng1, mRng2, mEnum, mZipT, mFor, mSl, mNoPart, mPart, mLc, wipeM, List.set_cons_zero, List.set_cons_succ, startM, List.map_cons, List.map_nil, List.cons_append, List.nil_append, List.length_cons, List.length_nil, List.replicate, List.getElem?_cons_zero, List.getElem?_cons_succ, Option.some.injEq, Nat.reduceSub, Nat.reduceAdd, true_and, exists_eq_left, exists_eq_left', e_ix_tup, e_ix_lst, e_ix_fz, e_ix_ref, e_lo_lst, e_lo_fz, e_lo_ref, e_so_lst, e_so_fz, e_so_tup, e_so_ref, e_hd_lst, e_hd_ref, e_add_int, e_add_str, e_add_tup, e_add_lst, e_sub_int, e_mul_int, e_mul_lst, e_mul_tup, e_mod_int, e_fdv_int, e_pow_int, e_lt_int, e_le_int, e_gt_int, e_ge_int, e_eq_int, e_ne_int, e_eq_str, e_ne_str, e_isN, e_notN, e_isN_non, e_isN_int, e_isN_tup, e_isN_str, e_isN_ref, e_isN_lst, e_abs, e_max2, e_min2, e_int_int, e_int_bl, e_str_int, e_str_str, e_str_non, e_len_str, e_len_tup, e_len_lst, e_len_fz, e_len_ref, e_list_tup, e_list_lst, e_list_fz, e_list_ref, e_tupl_tup, e_tupl_lst, e_tupl_ref, e_newT, e_newF, e_run_nm, e_run_tp, e_runs_nil, e_runs_cons, e_tru_bl, e_tru_int, e_tru_str, e_tru_lst, e_tru_tup, e_ty_str, e_ty_lst, e_ty_ref, e_append, e_insert, e_popAt, e_pop0, e_join, e_seqI_val, e_cut_str, e_cut_tup, e_cut_lst, e_cut_fz, e_cut_ref, mChain, mAugS, mStar, mEnumK, e_isi, e_isi2, e_all, e_intS_str, e_intS_int, e_inS, e_split, e_ix_str, e_iadd, e_tru_non]
    refine ⟨slots, outs, rfl, hh, hc, ?_⟩
    simp only [e_repr, mSeq, mIfS, mAsg, mRet, mRetN, mDrop, mTest, mOp, mC, mVar, mSetI, mNext, mCB, mCons, mNil, mAndT, mOrT, mNotT, mTruT, mIf, mNeg, mOr, mAnd, mNot, mLst, mTup, mBM, mBM0, mPar, mCall, mCallK, mLstRg1, mTupRg1, mRng1, mRng2, mEnum, mZipT, mFor, mSl, mNoPart, mPart, mLc, wipeM, List.set_cons_zero, List.set_cons_succ, startM, List.map_cons, List.map_nil, List.cons_append, List.nil_append, List.length_cons, List.length_nil, List.replicate, List.getElem?_cons_zero, List.getElem?_cons_succ, Option.some.injEq, Nat.reduceSub, Nat.reduceAdd, true_and, exists_eq_left, exists_eq_left', e_ix_tup, e_ix_lst, e_ix_fz, e_ix_ref, e_lo_lst, e_lo_fz, e_lo_ref, e_so_lst, e_so_fz, e_so_tup, e_so_ref, e_hd_lst, e_hd_ref, e_add_int, e_add_str, e_add_tup, e_add_lst, e_sub_int, e_mul_int, e_mul_lst, e_mul_tup, e_mod_int, e_fdv_int, e_pow_int, e_lt_int, e_le_int, e_gt_int, e_ge_int, e_eq_int, e_ne_int, e_eq_str, e_ne_str, e_isN, e_notN, e_isN_non, e_isN_int, e_isN_tup, e_isN_str, e_isN_ref, e_isN_lst, e_abs, e_max2, e_min2, e_int_int, e_int_bl, e_str_int, e_str_str, e_str_non, e_len_str, e_len_tup, e_len_lst, e_len_fz, e_len_ref, e_list_tup, e_list_lst, e_list_fz, e_list_ref, e_tupl_tup, e_tupl_lst, e_tupl_ref, e_newT, e_newF, e_run_nm, e_run_tp, e_runs_nil, e_runs_cons, e_tru_bl, e_tru_int, e_tru_str, e_tru_lst, e_tru_tup, e_ty_str, e_ty_lst, e_ty_ref, e_append, e_insert, e_popAt, e_pop0, e_join, e_seqI_val, e_cut_str, e_cut_tup, e_cut_lst, e_cut_fz, e_cut_ref, mChain, mAugS, mStar, mEnumK, e_isi, e_isi2, e_all, e_intS_str, e_intS_int, e_inS, e_split, e_ix_str, e_iadd, e_tru_non]
    refine ⟨rp, rp, ?_⟩
    simp only [decide_true, Bool.not_true, mSeq, mIfS, mAsg, mRet, mRetN, mDrop, mTest, mOp, mC, mVar, mSetI, mNext, mCB, mCons, mNil, mAndT, mOrT, mNotT, mTruT, mIf, mNeg, mOr, mAnd, mNot, mLst, mTup, mBM, mBM0, mPar, mCall, mCallK, mLstRg1, mTupRg1, mRng1, mRng2, mEnum, mZipT, mFor, mSl, mNoPart, mPart, mLc, wipeM, List.set_cons_zero, List.set_cons_succ, startM, List.map_cons, List.map_nil, List.cons_append, List.nil_append, List.length_cons, List.length_nil, List.replicate, List.getElem?_cons_zero, List.getElem?_cons_succ, Option.some.injEq, Nat.reduceSub, Nat.reduceAdd, true_and, exists_eq_left, exists_eq_left', e_ix_tup, e_ix_lst, e_ix_fz, e_ix_ref, e_lo_lst, e_lo_fz, e_lo_ref, e_so_lst, e_so_fz, e_so_tup, e_so_ref, e_hd_lst, e_hd_ref, e_add_int, e_add_str, e_add_tup, e_add_lst, e_sub_int, e_mul_int, e_mul_lst, e_mul_tup, e_mod_int, e_fdv_int, e_pow_int, e_lt_int, e_le_int, e_gt_int, e_ge_int, e_eq_int, e_ne_int, e_eq_str, e_ne_str, e_isN, e_notN, e_isN_non, e_isN_int, e_isN_tup, e_isN_str, e_isN_ref, e_isN_lst, e_abs, e_max2, e_min2, e_int_int, e_int_bl, e_str_int, e_str_str, e_str_non, e_len_str, e_len_tup, e_len_lst, e_len_fz, e_len_ref, e_list_tup, e_list_lst, e_list_fz, e_list_ref, e_tupl_tup, e_tupl_lst, e_tupl_ref, e_newT, e_newF, e_run_nm, e_run_tp, e_runs_nil, e_runs_cons, e_tru_bl, e_tru_int, e_tru_str, e_tru_lst, e_tru_tup, e_ty_str, e_ty_lst, e_ty_ref, e_append, e_insert, e_popAt, e_pop0, e_join, e_seqI_val, e_cut_str, e_cut_tup, e_cut_lst, e_cut_fz, e_cut_ref, mChain, mAugS, mStar, mEnumK, e_isi, e_isi2, e_all, e_intS_str, e_intS_int, e_inS, e_split, e_ix_str, e_iadd, e_tru_non]
    exact hN _ _ ⟨_, _, rfl⟩
  · rintro τ G' ⟨v4, v5, rfl⟩
    refine ⟨trivial, ?_⟩
    simp only [b_law_8, mSeq, mIfS, mAsg, mRet, mRetN, mDrop, mTest, mOp, mC, mVar, mSetI, mNext, mCB, mCons, mNil, mAndT, mOrT, mNotT, mTruT, mIf, mNeg, mOr, mAnd, mNot, mLst, mTup, mBM, mBM0, mPar, mCall, mCallK, mLstRg1, mTupRg1, mRng1, mRng2, mEnum, mZipT, mFor, mSl, mNoPart, mPart, mLc, wipeM, List.set_cons_zero, List.set_cons_succ, startM, List.map_cons, List.map_nil, List.cons_append, List.nil_append, List.length_cons, List.length_nil, List.replicate, List.getElem?_cons_zero, List.getElem?_cons_succ, Option.some.injEq, Nat.reduceSub, Nat.reduceAdd, true_and, exists_eq_left, exists_eq_left', e_ix_tup, e_ix_lst, e_ix_fz, e_ix_ref, e_lo_lst, e_lo_fz, e_lo_ref, e_so_lst, e_so_fz, e_so_tup, e_so_ref, e_hd_lst, e_hd_ref, e_add_int, e_add_str, e_add_tup, e_add_lst, e_sub_int, e_mul_int, e_mul_lst, e_mul_tup, e_mod_int, e_fdv_int, e_pow_int, e_lt_int, e_le_int, e_gt_int, e_ge_int, e_eq_int, e_ne_int, e_eq_str, e_ne_str, e_isN, e_notN, e_isN_non, e_isN_int, e_isN_tup, e_isN_str, e_isN_ref, e_isN_lst, e_abs, e_max2, e_min2, e_int_int, e_int_bl, e_str_int, e_str_str, e_str_non, e_len_str, e_len_tup, e_len_lst, e_len_fz, e_len_ref, e_list_tup, e_list_lst, e_list_fz, e_list_ref, e_tupl_tup, e_tupl_lst, e_tupl_ref, e_newT, e_newF, e_run_nm, e_run_tp, e_runs_nil, e_runs_cons, e_tru_bl, e_tru_int, e_tru_str, e_tru_lst, e_tru_tup, e_ty_str, e_ty_lst, e_ty_ref, e_append, e_insert, e_popAt, e_pop0, e_join, e_seqI_val, e_cut_str, e_cut_tup, e_cut_lst, e_cut_fz, e_cut_ref, mChain, mAugS, mStar, mEnumK, e_isi, e_isi2, e_all, e_intS_str, e_intS_int, e_inS, e_split, e_ix_str, e_iadd, e_tru_non]
    exact less_here (hq _)
theorem start_law (ns : List Int) (h : ns.length ≤ 63) : sp_law [.fz (ns.map D.int)] no (fun v _ => v = .bl true) noX := ⟨ns, rfl, fun _ => rfl⟩
end Q82

set_option maxRecDepth 100000
namespace Q82
open PySem PySem.Spec L2 ML
open PyProof.Rows hiding St
section
variable {P : Program} {w : World} {K : PySem.W.Frag} {mg : Str → Option Value} {base : Heap}
theorem ok_is_integer (T : Prg K mg) : FnG P w K mg base 1 T.f_is_integer T.fd_is_integer ["value"] sp_is_integer := by
  refine fnG_mk T.d_is_integer.fn sc_is_integer len_is_integer fun cdv A outer s H G Fr ws Q E hr h => ⟨_, walk_is_integer T  hr, ?_⟩
  unfold sp_is_integer at h
  split at h
  · exact law_is_integer _ G Q h
  · exact h.elim
theorem ok_reference_counts (T : Prg K mg) : FnG P w K mg base 1 T.f_reference_counts T.fd_reference_counts ["slots", "outside"] sp_reference_counts := by
  refine fnG_mk T.d_reference_counts.fn sc_reference_counts len_reference_counts fun cdv A outer s H G Fr ws Q E hr h => ⟨_, walk_reference_counts T  hr, ?_⟩
  unfold sp_reference_counts at h
  split at h
  · exact law_reference_counts _ _ G Q h
  · exact h.elim
theorem ok_have_shape (T : Prg K mg) : FnG P w K mg base 1 T.f_have_shape T.fd_have_shape ["slots", "outside"] sp_have_shape := by
  refine fnG_mk T.d_have_shape.fn sc_have_shape len_have_shape fun cdv A outer s H G Fr ws Q E hr h => ⟨_, walk_have_shape T  hr, ?_⟩
  unfold sp_have_shape at h
  split at h
  · exact law_have_shape _ _ G Q h
  · exact h.elim
theorem ok_require_word (T : Prg K mg) : FnG P w K mg base 1 T.f_require_word T.fd_require_word ["is_valid", "line", "word"] sp_require_word := by
  refine fnG_mk T.d_require_word.fn sc_require_word len_require_word fun cdv A outer s H G Fr ws Q E hr h => ⟨_, walk_require_word T  hr, ?_⟩
  unfold sp_require_word at h
  split at h
  · exact law_require_word _ _ _ G Q h
  · exact h.elim
theorem ok_number_in (T : Prg K mg) : FnG P w K mg base 1 T.f_number_in T.fd_number_in ["word", "bound"] sp_number_in := by
  refine fnG_mk T.d_number_in.fn sc_number_in len_number_in fun cdv A outer s H G Fr ws Q E hr h => ⟨_, walk_number_in T  hr, ?_⟩
  unfold sp_number_in at h
  split at h
  · exact law_number_in _ _ G Q h
  · exact h.elim
theorem ok_pen (T : Prg K mg) : FnG P w K mg base 1 T.f_pen T.fd_pen ["_law_script"] sp_pen := by
  refine fnG_mk T.d_pen.fn sc_pen len_pen fun cdv A outer s H G Fr ws Q E hr h => ⟨_, walk_pen T  hr, ?_⟩
  unfold sp_pen at h
  split at h
  · exact law_pen _ G Q h
  · exact h.elim
theorem ok_draw (T : Prg K mg) : FnG P w K mg base 1 T.f_draw T.fd_draw ["_law_pen_here", "_law_bound"] sp_draw := by
  refine fnG_mk T.d_draw.fn sc_draw len_draw fun cdv A outer s H G Fr ws Q E hr h => ⟨_, walk_draw T  hr, ?_⟩
  unfold sp_draw at h
  split at h
  · exact law_draw _ _ G Q h
  · exact h.elim
theorem ok_heap_text (T : Prg K mg) : FnG P w K mg base 1 T.f_heap_text T.fd_heap_text ["_law_home"] sp_heap_text := by
  refine fnG_mk T.d_heap_text.fn sc_heap_text len_heap_text fun cdv A outer s H G Fr ws Q E hr h => ⟨_, walk_heap_text T  hr, ?_⟩
  unfold sp_heap_text at h
  split at h
  · exact law_heap_text _ G Q h
  · exact h.elim
theorem ok_is_between (T : Prg K mg) : FnG P w K mg base 2 T.f_is_between T.fd_is_between ["value", "least", "most"] sp_is_between := by
  refine fnG_mk T.d_is_between.fn sc_is_between len_is_between fun cdv A outer s H G Fr ws Q E hr h => ⟨_, walk_is_between T (ok_is_integer T) hr, ?_⟩
  unfold sp_is_between at h
  split at h
  · exact law_is_between _ _ _ G Q h
  · exact h.elim
theorem ok_parse_slots (T : Prg K mg) : FnG P w K mg base 2 T.f_parse_slots T.fd_parse_slots ["words", "line", "size"] sp_parse_slots := by
  refine fnG_mk T.d_parse_slots.fn sc_parse_slots len_parse_slots fun cdv A outer s H G Fr ws Q E hr h => ⟨_, walk_parse_slots T (ok_number_in T) (ok_require_word T) hr, ?_⟩
  unfold sp_parse_slots at h
  split at h
  · exact law_parse_slots _ _ _ G Q h
  · exact h.elim
theorem ok_order (T : Prg K mg) : FnG P w K mg base 2 T.f_order T.fd_order ["_law_pen_here", "_law_size_here"] sp_order := by
  refine fnG_mk T.d_order.fn sc_order len_order fun cdv A outer s H G Fr ws Q E hr h => ⟨_, walk_order T (ok_draw T) hr, ?_⟩
  unfold sp_order at h
  split at h
  · exact law_order _ _ G Q h
  · exact h.elim
theorem ok_size (T : Prg K mg) : FnG P w K mg base 2 T.f_size T.fd_size ["_law_pen_here", "_law_most"] sp_size := by
  refine fnG_mk T.d_size.fn sc_size len_size fun cdv A outer s H G Fr ws Q E hr h => ⟨_, walk_size T (ok_draw T) hr, ?_⟩
  unfold sp_size at h
  split at h
  · exact law_size _ _ G Q h
  · exact h.elim
theorem ok_links (T : Prg K mg) : FnG P w K mg base 2 T.f_links T.fd_links ["_law_pen_here", "_law_size_here"] sp_links := by
  refine fnG_mk T.d_links.fn sc_links len_links fun cdv A outer s H G Fr ws Q E hr h => ⟨_, walk_links T (ok_draw T) hr, ?_⟩
  unfold sp_links at h
  split at h
  · exact law_links _ _ G Q h
  · exact h.elim
theorem ok_wide (T : Prg K mg) : FnG P w K mg base 2 T.f_wide T.fd_wide ["_law_pen_here"] sp_wide := by
  refine fnG_mk T.d_wide.fn sc_wide len_wide fun cdv A outer s H G Fr ws Q E hr h => ⟨_, walk_wide T (ok_draw T) hr, ?_⟩
  unfold sp_wide at h
  split at h
  · exact law_wide _ G Q h
  · exact h.elim
theorem ok_is_row (T : Prg K mg) : FnG P w K mg base 3 T.f_is_row T.fd_is_row ["value", "size"] sp_is_row := by
  refine fnG_mk T.d_is_row.fn sc_is_row len_is_row fun cdv A outer s H G Fr ws Q E hr h => ⟨_, walk_is_row T (ok_is_between T) hr, ?_⟩
  unfold sp_is_row at h
  split at h
  · exact law_is_row _ _ G Q h
  · exact h.elim
theorem ok_heap (T : Prg K mg) : FnG P w K mg base 3 T.f_heap T.fd_heap ["_law_pen_here", "_law_most"] sp_heap := by
  refine fnG_mk T.d_heap.fn sc_heap len_heap fun cdv A outer s H G Fr ws Q E hr h => ⟨_, walk_heap T (ok_size T) (ok_links T) (ok_order T) (ok_draw T) hr, ?_⟩
  unfold sp_heap at h
  split at h
  · exact law_heap _ _ G Q h
  · exact h.elim
theorem ok_first_fault (T : Prg K mg) : FnG P w K mg base 4 T.f_first_fault T.fd_first_fault ["slots", "outside"] sp_first_fault := by
  refine fnG_mk T.d_first_fault.fn sc_first_fault len_first_fault fun cdv A outer s H G Fr ws Q E hr h => ⟨_, walk_first_fault T (ok_reference_counts T) (ok_is_row T) (ok_is_between T) hr, ?_⟩
  unfold sp_first_fault at h
  split at h
  · exact law_first_fault _ _ G Q h
  · exact h.elim
theorem ok_make_heap (T : Prg K mg) : FnG P w K mg base 5 T.f_make_heap T.fd_make_heap ["slots", "outside"] sp_make_heap := by
  refine fnG_mk T.d_make_heap.fn sc_make_heap len_make_heap fun cdv A outer s H G Fr ws Q E hr h => ⟨_, walk_make_heap T (ok_first_fault T) (ok_have_shape T) hr, ?_⟩
  unfold sp_make_heap at h
  split at h
  · exact law_make_heap _ _ G Q h
  · exact h.elim
theorem ok_parse_heap (T : Prg K mg) : FnG P w K mg base 6 T.f_parse_heap T.fd_parse_heap ["text"] sp_parse_heap := by
  refine fnG_mk T.d_parse_heap.fn sc_parse_heap len_parse_heap fun cdv A outer s H G Fr ws Q E hr h => ⟨_, walk_parse_heap T (ok_require_word T) (ok_make_heap T) (ok_parse_slots T) hr, ?_⟩
  unfold sp_parse_heap at h
  split at h
  · exact law_parse_heap _ G Q h
  · exact h.elim
theorem ok_law (T : Prg K mg) : FnG P w K mg base 7 T.f_law T.fd_law ["_law_script"] sp_law := by
  refine fnG_mk T.d_law.fn sc_law len_law fun cdv A outer s H G Fr ws Q E hr h => ⟨_, walk_law T (ok_pen T) (ok_wide T) (ok_heap_text T) (ok_heap T) (ok_parse_heap T) hr, ?_⟩
  unfold sp_law at h
  split at h
  · exact law_law _ G Q h
  · exact h.elim
theorem all_mk {l : PySem.W.OpenLaw} {w : World} {K : PySem.W.Frag} {h : Heap} {mg : Str → Option Value} {fa : Addr} (X : K.In h) (G : h.Ns mainGlobals mg) (hfa : mg "law" = some (.ref fa))
    {f_is_integer : Addr} {oc_is_integer kV_is_integer dc_is_integer pm_is_integer cd_is_integer ct_is_integer : Value} {od_is_integer an_is_integer : Option Addr} {sl_is_integer : Array (Option Value)} (a_is_integer : PySem.W.nsIn K mainGlobals "is_integer" = some (some (.ref f_is_integer))) (l_is_integer : K.lookup f_is_integer = some ⟨oc_is_integer, od_is_integer, .func (PySem.W.fnOf "is_integer" "is_integer" (defArgs s_is_integer) (defBody s_is_integer) (defScope s_is_integer) .none kV_is_integer dc_is_integer pm_is_integer an_is_integer cd_is_integer ct_is_integer), sl_is_integer⟩) (c_is_integer : PySem.W.codeIn K cd_is_integer "is_integer" = true) (k_is_integer : PySem.W.keepIn K (.ref f_is_integer) = true)
    {f_is_between : Addr} {oc_is_between kV_is_between dc_is_between pm_is_between cd_is_between ct_is_between : Value} {od_is_between an_is_between : Option Addr} {sl_is_between : Array (Option Value)} (a_is_between : PySem.W.nsIn K mainGlobals "is_between" = some (some (.ref f_is_between))) (l_is_between : K.lookup f_is_between = some ⟨oc_is_between, od_is_between, .func (PySem.W.fnOf "is_between" "is_between" (defArgs s_is_between) (defBody s_is_between) (defScope s_is_between) .none kV_is_between dc_is_between pm_is_between an_is_between cd_is_between ct_is_between), sl_is_between⟩) (c_is_between : PySem.W.codeIn K cd_is_between "is_between" = true) (k_is_between : PySem.W.keepIn K (.ref f_is_between) = true)
    {f_is_row : Addr} {oc_is_row kV_is_row dc_is_row pm_is_row cd_is_row ct_is_row : Value} {od_is_row an_is_row : Option Addr} {sl_is_row : Array (Option Value)} (a_is_row : PySem.W.nsIn K mainGlobals "is_row" = some (some (.ref f_is_row))) (l_is_row : K.lookup f_is_row = some ⟨oc_is_row, od_is_row, .func (PySem.W.fnOf "is_row" "is_row" (defArgs s_is_row) (defBody s_is_row) (defScope s_is_row) .none kV_is_row dc_is_row pm_is_row an_is_row cd_is_row ct_is_row), sl_is_row⟩) (c_is_row : PySem.W.codeIn K cd_is_row "is_row" = true) (k_is_row : PySem.W.keepIn K (.ref f_is_row) = true)
    {f_reference_counts : Addr} {oc_reference_counts kV_reference_counts dc_reference_counts pm_reference_counts cd_reference_counts ct_reference_counts : Value} {od_reference_counts an_reference_counts : Option Addr} {sl_reference_counts : Array (Option Value)} (a_reference_counts : PySem.W.nsIn K mainGlobals "reference_counts" = some (some (.ref f_reference_counts))) (l_reference_counts : K.lookup f_reference_counts = some ⟨oc_reference_counts, od_reference_counts, .func (PySem.W.fnOf "reference_counts" "reference_counts" (defArgs s_reference_counts) (defBody s_reference_counts) (defScope s_reference_counts) .none kV_reference_counts dc_reference_counts pm_reference_counts an_reference_counts cd_reference_counts ct_reference_counts), sl_reference_counts⟩) (c_reference_counts : PySem.W.codeIn K cd_reference_counts "reference_counts" = true) (k_reference_counts : PySem.W.keepIn K (.ref f_reference_counts) = true)
    {f_first_fault : Addr} {oc_first_fault kV_first_fault dc_first_fault pm_first_fault cd_first_fault ct_first_fault : Value} {od_first_fault an_first_fault : Option Addr} {sl_first_fault : Array (Option Value)} (a_first_fault : PySem.W.nsIn K mainGlobals "first_fault" = some (some (.ref f_first_fault))) (l_first_fault : K.lookup f_first_fault = some ⟨oc_first_fault, od_first_fault, .func (PySem.W.fnOf "first_fault" "first_fault" (defArgs s_first_fault) (defBody s_first_fault) (defScope s_first_fault) .none kV_first_fault dc_first_fault pm_first_fault an_first_fault cd_first_fault ct_first_fault), sl_first_fault⟩) (c_first_fault : PySem.W.codeIn K cd_first_fault "first_fault" = true) (k_first_fault : PySem.W.keepIn K (.ref f_first_fault) = true)
    {f_have_shape : Addr} {oc_have_shape kV_have_shape dc_have_shape pm_have_shape cd_have_shape ct_have_shape : Value} {od_have_shape an_have_shape : Option Addr} {sl_have_shape : Array (Option Value)} (a_have_shape : PySem.W.nsIn K mainGlobals "have_shape" = some (some (.ref f_have_shape))) (l_have_shape : K.lookup f_have_shape = some ⟨oc_have_shape, od_have_shape, .func (PySem.W.fnOf "have_shape" "have_shape" (defArgs s_have_shape) (defBody s_have_shape) (defScope s_have_shape) .none kV_have_shape dc_have_shape pm_have_shape an_have_shape cd_have_shape ct_have_shape), sl_have_shape⟩) (c_have_shape : PySem.W.codeIn K cd_have_shape "have_shape" = true) (k_have_shape : PySem.W.keepIn K (.ref f_have_shape) = true)
    {f_make_heap : Addr} {oc_make_heap kV_make_heap dc_make_heap pm_make_heap cd_make_heap ct_make_heap : Value} {od_make_heap an_make_heap : Option Addr} {sl_make_heap : Array (Option Value)} (a_make_heap : PySem.W.nsIn K mainGlobals "make_heap" = some (some (.ref f_make_heap))) (l_make_heap : K.lookup f_make_heap = some ⟨oc_make_heap, od_make_heap, .func (PySem.W.fnOf "make_heap" "make_heap" (defArgs s_make_heap) (defBody s_make_heap) (defScope s_make_heap) .none kV_make_heap dc_make_heap pm_make_heap an_make_heap cd_make_heap ct_make_heap), sl_make_heap⟩) (c_make_heap : PySem.W.codeIn K cd_make_heap "make_heap" = true) (k_make_heap : PySem.W.keepIn K (.ref f_make_heap) = true)
    {f_require_word : Addr} {oc_require_word kV_require_word dc_require_word pm_require_word cd_require_word ct_require_word : Value} {od_require_word an_require_word : Option Addr} {sl_require_word : Array (Option Value)} (a_require_word : PySem.W.nsIn K mainGlobals "require_word" = some (some (.ref f_require_word))) (l_require_word : K.lookup f_require_word = some ⟨oc_require_word, od_require_word, .func (PySem.W.fnOf "require_word" "require_word" (defArgs s_require_word) (defBody s_require_word) (defScope s_require_word) .none kV_require_word dc_require_word pm_require_word an_require_word cd_require_word ct_require_word), sl_require_word⟩) (c_require_word : PySem.W.codeIn K cd_require_word "require_word" = true) (k_require_word : PySem.W.keepIn K (.ref f_require_word) = true)
    {f_number_in : Addr} {oc_number_in kV_number_in dc_number_in pm_number_in cd_number_in ct_number_in : Value} {od_number_in an_number_in : Option Addr} {sl_number_in : Array (Option Value)} (a_number_in : PySem.W.nsIn K mainGlobals "number_in" = some (some (.ref f_number_in))) (l_number_in : K.lookup f_number_in = some ⟨oc_number_in, od_number_in, .func (PySem.W.fnOf "number_in" "number_in" (defArgs s_number_in) (defBody s_number_in) (defScope s_number_in) .none kV_number_in dc_number_in pm_number_in an_number_in cd_number_in ct_number_in), sl_number_in⟩) (c_number_in : PySem.W.codeIn K cd_number_in "number_in" = true) (k_number_in : PySem.W.keepIn K (.ref f_number_in) = true)
    {f_parse_slots : Addr} {oc_parse_slots kV_parse_slots dc_parse_slots pm_parse_slots cd_parse_slots ct_parse_slots : Value} {od_parse_slots an_parse_slots : Option Addr} {sl_parse_slots : Array (Option Value)} (a_parse_slots : PySem.W.nsIn K mainGlobals "parse_slots" = some (some (.ref f_parse_slots))) (l_parse_slots : K.lookup f_parse_slots = some ⟨oc_parse_slots, od_parse_slots, .func (PySem.W.fnOf "parse_slots" "parse_slots" (defArgs s_parse_slots) (defBody s_parse_slots) (defScope s_parse_slots) .none kV_parse_slots dc_parse_slots pm_parse_slots an_parse_slots cd_parse_slots ct_parse_slots), sl_parse_slots⟩) (c_parse_slots : PySem.W.codeIn K cd_parse_slots "parse_slots" = true) (k_parse_slots : PySem.W.keepIn K (.ref f_parse_slots) = true)
    {f_parse_heap : Addr} {oc_parse_heap kV_parse_heap dc_parse_heap pm_parse_heap cd_parse_heap ct_parse_heap : Value} {od_parse_heap an_parse_heap : Option Addr} {sl_parse_heap : Array (Option Value)} (a_parse_heap : PySem.W.nsIn K mainGlobals "parse_heap" = some (some (.ref f_parse_heap))) (l_parse_heap : K.lookup f_parse_heap = some ⟨oc_parse_heap, od_parse_heap, .func (PySem.W.fnOf "parse_heap" "parse_heap" (defArgs s_parse_heap) (defBody s_parse_heap) (defScope s_parse_heap) .none kV_parse_heap dc_parse_heap pm_parse_heap an_parse_heap cd_parse_heap ct_parse_heap), sl_parse_heap⟩) (c_parse_heap : PySem.W.codeIn K cd_parse_heap "parse_heap" = true) (k_parse_heap : PySem.W.keepIn K (.ref f_parse_heap) = true)
    {f_pen : Addr} {oc_pen kV_pen dc_pen pm_pen cd_pen ct_pen : Value} {od_pen an_pen : Option Addr} {sl_pen : Array (Option Value)} (a_pen : PySem.W.nsIn K mainGlobals "_law_pen" = some (some (.ref f_pen))) (l_pen : K.lookup f_pen = some ⟨oc_pen, od_pen, .func (PySem.W.fnOf "_law_pen" "_law_pen" (defArgs s_pen) (defBody s_pen) (defScope s_pen) .none kV_pen dc_pen pm_pen an_pen cd_pen ct_pen), sl_pen⟩) (c_pen : PySem.W.codeIn K cd_pen "_law_pen" = true) (k_pen : PySem.W.keepIn K (.ref f_pen) = true)
    {f_draw : Addr} {oc_draw kV_draw dc_draw pm_draw cd_draw ct_draw : Value} {od_draw an_draw : Option Addr} {sl_draw : Array (Option Value)} (a_draw : PySem.W.nsIn K mainGlobals "_law_draw" = some (some (.ref f_draw))) (l_draw : K.lookup f_draw = some ⟨oc_draw, od_draw, .func (PySem.W.fnOf "_law_draw" "_law_draw" (defArgs s_draw) (defBody s_draw) (defScope s_draw) .none kV_draw dc_draw pm_draw an_draw cd_draw ct_draw), sl_draw⟩) (c_draw : PySem.W.codeIn K cd_draw "_law_draw" = true) (k_draw : PySem.W.keepIn K (.ref f_draw) = true)
    {f_order : Addr} {oc_order kV_order dc_order pm_order cd_order ct_order : Value} {od_order an_order : Option Addr} {sl_order : Array (Option Value)} (a_order : PySem.W.nsIn K mainGlobals "_law_order" = some (some (.ref f_order))) (l_order : K.lookup f_order = some ⟨oc_order, od_order, .func (PySem.W.fnOf "_law_order" "_law_order" (defArgs s_order) (defBody s_order) (defScope s_order) .none kV_order dc_order pm_order an_order cd_order ct_order), sl_order⟩) (c_order : PySem.W.codeIn K cd_order "_law_order" = true) (k_order : PySem.W.keepIn K (.ref f_order) = true)
    {f_size : Addr} {oc_size kV_size dc_size pm_size cd_size ct_size : Value} {od_size an_size : Option Addr} {sl_size : Array (Option Value)} (a_size : PySem.W.nsIn K mainGlobals "_law_size" = some (some (.ref f_size))) (l_size : K.lookup f_size = some ⟨oc_size, od_size, .func (PySem.W.fnOf "_law_size" "_law_size" (defArgs s_size) (defBody s_size) (defScope s_size) .none kV_size dc_size pm_size an_size cd_size ct_size), sl_size⟩) (c_size : PySem.W.codeIn K cd_size "_law_size" = true) (k_size : PySem.W.keepIn K (.ref f_size) = true)
    {f_links : Addr} {oc_links kV_links dc_links pm_links cd_links ct_links : Value} {od_links an_links : Option Addr} {sl_links : Array (Option Value)} (a_links : PySem.W.nsIn K mainGlobals "_law_links" = some (some (.ref f_links))) (l_links : K.lookup f_links = some ⟨oc_links, od_links, .func (PySem.W.fnOf "_law_links" "_law_links" (defArgs s_links) (defBody s_links) (defScope s_links) .none kV_links dc_links pm_links an_links cd_links ct_links), sl_links⟩) (c_links : PySem.W.codeIn K cd_links "_law_links" = true) (k_links : PySem.W.keepIn K (.ref f_links) = true)
    {f_heap : Addr} {oc_heap kV_heap dc_heap pm_heap cd_heap ct_heap : Value} {od_heap an_heap : Option Addr} {sl_heap : Array (Option Value)} (a_heap : PySem.W.nsIn K mainGlobals "_law_heap" = some (some (.ref f_heap))) (l_heap : K.lookup f_heap = some ⟨oc_heap, od_heap, .func (PySem.W.fnOf "_law_heap" "_law_heap" (defArgs s_heap) (defBody s_heap) (defScope s_heap) .none kV_heap dc_heap pm_heap an_heap cd_heap ct_heap), sl_heap⟩) (c_heap : PySem.W.codeIn K cd_heap "_law_heap" = true) (k_heap : PySem.W.keepIn K (.ref f_heap) = true)
    {f_heap_text : Addr} {oc_heap_text kV_heap_text dc_heap_text pm_heap_text cd_heap_text ct_heap_text : Value} {od_heap_text an_heap_text : Option Addr} {sl_heap_text : Array (Option Value)} (a_heap_text : PySem.W.nsIn K mainGlobals "_law_heap_text" = some (some (.ref f_heap_text))) (l_heap_text : K.lookup f_heap_text = some ⟨oc_heap_text, od_heap_text, .func (PySem.W.fnOf "_law_heap_text" "_law_heap_text" (defArgs s_heap_text) (defBody s_heap_text) (defScope s_heap_text) .none kV_heap_text dc_heap_text pm_heap_text an_heap_text cd_heap_text ct_heap_text), sl_heap_text⟩) (c_heap_text : PySem.W.codeIn K cd_heap_text "_law_heap_text" = true) (k_heap_text : PySem.W.keepIn K (.ref f_heap_text) = true)
    {f_wide : Addr} {oc_wide kV_wide dc_wide pm_wide cd_wide ct_wide : Value} {od_wide an_wide : Option Addr} {sl_wide : Array (Option Value)} (a_wide : PySem.W.nsIn K mainGlobals "_law_wide" = some (some (.ref f_wide))) (l_wide : K.lookup f_wide = some ⟨oc_wide, od_wide, .func (PySem.W.fnOf "_law_wide" "_law_wide" (defArgs s_wide) (defBody s_wide) (defScope s_wide) .none kV_wide dc_wide pm_wide an_wide cd_wide ct_wide), sl_wide⟩) (c_wide : PySem.W.codeIn K cd_wide "_law_wide" = true) (k_wide : PySem.W.keepIn K (.ref f_wide) = true)
    {f_law : Addr} {oc_law kV_law dc_law pm_law cd_law ct_law : Value} {od_law an_law : Option Addr} {sl_law : Array (Option Value)} (a_law : PySem.W.nsIn K mainGlobals "law" = some (some (.ref f_law))) (l_law : K.lookup f_law = some ⟨oc_law, od_law, .func (PySem.W.fnOf "law" "law" (defArgs s_law) (defBody s_law) (defScope s_law) .none kV_law dc_law pm_law an_law cd_law ct_law), sl_law⟩) (c_law : PySem.W.codeIn K cd_law "law" = true) (k_law : PySem.W.keepIn K (.ref f_law) = true)
    (z_abs : PySem.W.nsIn K mainGlobals "abs" = some none)
    (z_all : PySem.W.nsIn K mainGlobals "all" = some none)
    (z_bool : PySem.W.nsIn K mainGlobals "bool" = some none)
    (z_enumerate : PySem.W.nsIn K mainGlobals "enumerate" = some none)
    (z_int : PySem.W.nsIn K mainGlobals "int" = some none)
    (z_isinstance : PySem.W.nsIn K mainGlobals "isinstance" = some none)
    (z_len : PySem.W.nsIn K mainGlobals "len" = some none)
    (z_list : PySem.W.nsIn K mainGlobals "list" = some none)
    (z_max : PySem.W.nsIn K mainGlobals "max" = some none)
    (z_min : PySem.W.nsIn K mainGlobals "min" = some none)
    (z_range : PySem.W.nsIn K mainGlobals "range" = some none)
    (z_repr : PySem.W.nsIn K mainGlobals "repr" = some none)
    (z_str : PySem.W.nsIn K mainGlobals "str" = some none)
    (z_tuple : PySem.W.nsIn K mainGlobals "tuple" = some none)
    {t_DIGITS : Tok} (v_DIGITS : PySem.W.nsIn K mainGlobals "DIGITS" = some (some (.str "0123456789" t_DIGITS)))
    {t_MOST_DIGITS : Tok} (v_MOST_DIGITS : PySem.W.nsIn K mainGlobals "MOST_DIGITS" = some (some (.int 9 t_MOST_DIGITS)))
    {t_MOST_NODES : Tok} (v_MOST_NODES : PySem.W.nsIn K mainGlobals "MOST_NODES" = some (some (.int 40 t_MOST_NODES)))
    {t_MOST_OUTSIDE : Tok} (v_MOST_OUTSIDE : PySem.W.nsIn K mainGlobals "MOST_OUTSIDE" = some (some (.int 9 t_MOST_OUTSIDE)))
    {t_MOST_SLOTS : Tok} (v_MOST_SLOTS : PySem.W.nsIn K mainGlobals "MOST_SLOTS" = some (some (.int 40 t_MOST_SLOTS))) :
    ∃ fd : FuncData, (∀ (s : Shared) (v : Value), BindsTo s fd ⟨[v], []⟩ [("_law_script", v)]) ∧ ∀ base : Heap, K.In base → base.Ns mainGlobals mg → FnG l.prog w K mg base 7 fa fd ["_law_script"] sp_law := by
  have e := hfa.symm.trans (PySem.W.mg_of X G a_law)
  cases e
  exact ⟨PySem.W.fnOf "law" "law" (defArgs s_law) (defBody s_law) (defScope s_law) .none kV_law dc_law pm_law an_law cd_law ct_law, fun s v => .of_eq rfl, fun base _ _ =>
    ok_law (mg := mg) ({
    f_is_integer := f_is_integer, fd_is_integer := _, d_is_integer := df_mk X G a_is_integer l_is_integer c_is_integer k_is_integer fun _ _ _ _ _ _ us hl => match us, hl with | [_], _ => rfl,
    f_is_between := f_is_between, fd_is_between := _, d_is_between := df_mk X G a_is_between l_is_between c_is_between k_is_between fun _ _ _ _ _ _ us hl => match us, hl with | [_, _, _], _ => rfl,
    f_is_row := f_is_row, fd_is_row := _, d_is_row := df_mk X G a_is_row l_is_row c_is_row k_is_row fun _ _ _ _ _ _ us hl => match us, hl with | [_, _], _ => rfl,
    f_reference_counts := f_reference_counts, fd_reference_counts := _, d_reference_counts := df_mk X G a_reference_counts l_reference_counts c_reference_counts k_reference_counts fun _ _ _ _ _ _ us hl => match us, hl with | [_, _], _ => rfl,
    f_first_fault := f_first_fault, fd_first_fault := _, d_first_fault := df_mk X G a_first_fault l_first_fault c_first_fault k_first_fault fun _ _ _ _ _ _ us hl => match us, hl with | [_, _], _ => rfl,
    f_have_shape := f_have_shape, fd_have_shape := _, d_have_shape := df_mk X G a_have_shape l_have_shape c_have_shape k_have_shape fun _ _ _ _ _ _ us hl => match us, hl with | [_, _], _ => rfl,
    f_make_heap := f_make_heap, fd_make_heap := _, d_make_heap := df_mk X G a_make_heap l_make_heap c_make_heap k_make_heap fun _ _ _ _ _ _ us hl => match us, hl with | [_, _], _ => rfl,
    f_require_word := f_require_word, fd_require_word := _, d_require_word := df_mk X G a_require_word l_require_word c_require_word k_require_word fun _ _ _ _ _ _ us hl => match us, hl with | [_, _, _], _ => rfl,
    f_number_in := f_number_in, fd_number_in := _, d_number_in := df_mk X G a_number_in l_number_in c_number_in k_number_in fun _ _ _ _ _ _ us hl => match us, hl with | [_, _], _ => rfl,
    f_parse_slots := f_parse_slots, fd_parse_slots := _, d_parse_slots := df_mk X G a_parse_slots l_parse_slots c_parse_slots k_parse_slots fun _ _ _ _ _ _ us hl => match us, hl with | [_, _, _], _ => rfl,
    f_parse_heap := f_parse_heap, fd_parse_heap := _, d_parse_heap := df_mk X G a_parse_heap l_parse_heap c_parse_heap k_parse_heap fun _ _ _ _ _ _ us hl => match us, hl with | [_], _ => rfl,
    f_pen := f_pen, fd_pen := _, d_pen := df_mk X G a_pen l_pen c_pen k_pen fun _ _ _ _ _ _ us hl => match us, hl with | [_], _ => rfl,
    f_draw := f_draw, fd_draw := _, d_draw := df_mk X G a_draw l_draw c_draw k_draw fun _ _ _ _ _ _ us hl => match us, hl with | [_, _], _ => rfl,
    f_order := f_order, fd_order := _, d_order := df_mk X G a_order l_order c_order k_order fun _ _ _ _ _ _ us hl => match us, hl with | [_, _], _ => rfl,
    f_size := f_size, fd_size := _, d_size := df_mk X G a_size l_size c_size k_size fun _ _ _ _ _ _ us hl => match us, hl with | [_, _], _ => rfl,
    f_links := f_links, fd_links := _, d_links := df_mk X G a_links l_links c_links k_links fun _ _ _ _ _ _ us hl => match us, hl with | [_, _], _ => rfl,
    f_heap := f_heap, fd_heap := _, d_heap := df_mk X G a_heap l_heap c_heap k_heap fun _ _ _ _ _ _ us hl => match us, hl with | [_, _], _ => rfl,
    f_heap_text := f_heap_text, fd_heap_text := _, d_heap_text := df_mk X G a_heap_text l_heap_text c_heap_text k_heap_text fun _ _ _ _ _ _ us hl => match us, hl with | [_], _ => rfl,
    f_wide := f_wide, fd_wide := _, d_wide := df_mk X G a_wide l_wide c_wide k_wide fun _ _ _ _ _ _ us hl => match us, hl with | [_], _ => rfl,
    f_law := fa, fd_law := _, d_law := df_mk X G a_law l_law c_law k_law fun _ _ _ _ _ _ us hl => match us, hl with | [_], _ => rfl,
    n_abs := PySem.W.mg_none_of X G z_abs,
    n_all := PySem.W.mg_none_of X G z_all,
    n_bool := PySem.W.mg_none_of X G z_bool,
    n_enumerate := PySem.W.mg_none_of X G z_enumerate,
    n_int := PySem.W.mg_none_of X G z_int,
    n_isinstance := PySem.W.mg_none_of X G z_isinstance,
    n_len := PySem.W.mg_none_of X G z_len,
    n_list := PySem.W.mg_none_of X G z_list,
    n_max := PySem.W.mg_none_of X G z_max,
    n_min := PySem.W.mg_none_of X G z_min,
    n_range := PySem.W.mg_none_of X G z_range,
    n_repr := PySem.W.mg_none_of X G z_repr,
    n_str := PySem.W.mg_none_of X G z_str,
    n_tuple := PySem.W.mg_none_of X G z_tuple,
    g_DIGITS := ⟨_, PySem.W.mg_of X G v_DIGITS⟩,
    g_MOST_DIGITS := ⟨_, PySem.W.mg_of X G v_MOST_DIGITS⟩,
    g_MOST_NODES := ⟨_, PySem.W.mg_of X G v_MOST_NODES⟩,
    g_MOST_OUTSIDE := ⟨_, PySem.W.mg_of X G v_MOST_OUTSIDE⟩,
    g_MOST_SLOTS := ⟨_, PySem.W.mg_of X G v_MOST_SLOTS⟩ } : Prg K mg)⟩
end
end Q82
open PySem PySem.W PyProof.Rows in
set_option maxRecDepth 100000 in
set_option maxHeartbeats 0 in
theorem PySem.Challenge.cw_slotfall_k82_heaps_read_holds : PySem.Challenge.rw_slotfall_k82_heaps_read.Holds := by
  w_on; o_law; k_head; (case hw => w_witness2)
  k_fill
  refine ML.walkM (l := PySem.Challenge.rw_slotfall_k82_heaps_read) (n := 63) (k := 7) (x := "_law_script") (sp := Q82.sp_law) rfl (by decide) rfl ⟨rfl, by decide, by decide⟩ (fun w h Y => PySem.W.kIn_of Y) ?F Q82.start_law
  case F =>
    intro w mg fa h KX G hmg
    refine' Q82.all_mk KX G hmg ?a_is_integer ?l_is_integer ?c_is_integer ?k_is_integer ?a_is_between ?l_is_between ?c_is_between ?k_is_between ?a_is_row ?l_is_row ?c_is_row ?k_is_row ?a_reference_counts ?l_reference_counts ?c_reference_counts ?k_reference_counts ?a_first_fault ?l_first_fault ?c_first_fault ?k_first_fault ?a_have_shape ?l_have_shape ?c_have_shape ?k_have_shape ?a_make_heap ?l_make_heap ?c_make_heap ?k_make_heap ?a_require_word ?l_require_word ?c_require_word ?k_require_word ?a_number_in ?l_number_in ?c_number_in ?k_number_in ?a_parse_slots ?l_parse_slots ?c_parse_slots ?k_parse_slots ?a_parse_heap ?l_parse_heap ?c_parse_heap ?k_parse_heap ?a_pen ?l_pen ?c_pen ?k_pen ?a_draw ?l_draw ?c_draw ?k_draw ?a_order ?l_order ?c_order ?k_order ?a_size ?l_size ?c_size ?k_size ?a_links ?l_links ?c_links ?k_links ?a_heap ?l_heap ?c_heap ?k_heap ?a_heap_text ?l_heap_text ?c_heap_text ?k_heap_text ?a_wide ?l_wide ?c_wide ?k_wide ?a_law ?l_law ?c_law ?k_law ?z_abs ?z_all ?z_bool ?z_enumerate ?z_int ?z_isinstance ?z_len ?z_list ?z_max ?z_min ?z_range ?z_repr ?z_str ?z_tuple ?v_DIGITS ?v_MOST_DIGITS ?v_MOST_NODES ?v_MOST_OUTSIDE ?v_MOST_SLOTS
    (case a_is_integer => k_is)
    (case l_is_integer => k_is)
    (case c_is_integer => k_is)
    (case k_is_integer => k_is)
    (case a_is_between => k_is)
    (case l_is_between => k_is)
    (case c_is_between => k_is)
    (case k_is_between => k_is)
    (case a_is_row => k_is)
    (case l_is_row => k_is)
    (case c_is_row => k_is)
    (case k_is_row => k_is)
    (case a_reference_counts => k_is)
    (case l_reference_counts => k_is)
    (case c_reference_counts => k_is)
    (case k_reference_counts => k_is)
    (case a_first_fault => k_is)
    (case l_first_fault => k_is)
    (case c_first_fault => k_is)
    (case k_first_fault => k_is)
    (case a_have_shape => k_is)
    (case l_have_shape => k_is)
    (case c_have_shape => k_is)
    (case k_have_shape => k_is)
    (case a_make_heap => k_is)
    (case l_make_heap => k_is)
    (case c_make_heap => k_is)
    (case k_make_heap => k_is)
    (case a_require_word => k_is)
    (case l_require_word => k_is)
    (case c_require_word => k_is)
    (case k_require_word => k_is)
    (case a_number_in => k_is)
    (case l_number_in => k_is)
    (case c_number_in => k_is)
    (case k_number_in => k_is)
    (case a_parse_slots => k_is)
    (case l_parse_slots => k_is)
    (case c_parse_slots => k_is)
    (case k_parse_slots => k_is)
    (case a_parse_heap => k_is)
    (case l_parse_heap => k_is)
    (case c_parse_heap => k_is)
    (case k_parse_heap => k_is)
    (case a_pen => k_is)
    (case l_pen => k_is)
    (case c_pen => k_is)
    (case k_pen => k_is)
    (case a_draw => k_is)
    (case l_draw => k_is)
    (case c_draw => k_is)
    (case k_draw => k_is)
    (case a_order => k_is)
    (case l_order => k_is)
    (case c_order => k_is)
    (case k_order => k_is)
    (case a_size => k_is)
    (case l_size => k_is)
    (case c_size => k_is)
    (case k_size => k_is)
    (case a_links => k_is)
    (case l_links => k_is)
    (case c_links => k_is)
    (case k_links => k_is)
    (case a_heap => k_is)
    (case l_heap => k_is)
    (case c_heap => k_is)
    (case k_heap => k_is)
    (case a_heap_text => k_is)
    (case l_heap_text => k_is)
    (case c_heap_text => k_is)
    (case k_heap_text => k_is)
    (case a_wide => k_is)
    (case l_wide => k_is)
    (case c_wide => k_is)
    (case k_wide => k_is)
    (case a_law => k_is)
    (case l_law => k_is)
    (case c_law => k_is)
    (case k_law => k_is)
    (case z_abs => k_is)
    (case z_all => k_is)
    (case z_bool => k_is)
    (case z_enumerate => k_is)
    (case z_int => k_is)
    (case z_isinstance => k_is)
    (case z_len => k_is)
    (case z_list => k_is)
    (case z_max => k_is)
    (case z_min => k_is)
    (case z_range => k_is)
    (case z_repr => k_is)
    (case z_str => k_is)
    (case z_tuple => k_is)
    (case v_DIGITS => k_is)
    (case v_MOST_DIGITS => k_is)
    (case v_MOST_NODES => k_is)
    (case v_MOST_OUTSIDE => k_is)
    (case v_MOST_SLOTS => k_is)
