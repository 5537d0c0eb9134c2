import PyProof.Rows.All
import Wide.All
import OpenK.AllK
import Wide.FinOn
import HandS.ForMost
import HandS.TupAny
import HandS.Wide
import HandS.TupMul
import HandS.Flow
import HandS.Style
import HandS.Exc
import HandS.Defaults
import HandS.More
import HandS.Conv
import HandS.Text
import HandS.RaiseMore
import HandS.Zip
import PyProof.EnumMake
import PyProof.Draws
import HandS.Ends
import PyProof.Ascii
import PyProof.ReprLen
import PySem.Challenge.RW_slotfall_k81_texts_written
set_option Elab.async false
set_option linter.all false
set_option maxRecDepth 100000
namespace ML
open PySem PySem.Spec L2
open PyProof.Rows hiding St

/-- a value seen as data: tuples and lists that nobody changes are whole; .ref a is an object of its own -/
inductive D where
  | non | bl (b : Bool) | int (i : Int) | str (x : Str) | ref (a : Addr) | ty (n : String) | tup (xs : List D) | lst (xs : List D) | fz (xs : List D)
  deriving Inhabited
/-- an object that may change -/
inductive MO where
  | lst (xs : List D)
  | ins (C : Addr) (fs : List (Str × D))
  | dic (kvs : List (Key × D))
abbrev Gp := Addr → Option MO
def put (G : Gp) (a : Addr) (o : MO) : Gp := fun b => if b = a then some o else G b
def del (G : Gp) (a : Addr) : Gp := fun b => if b = a then none else G b
theorem put_same {G : Gp} {a : Addr} {o : MO} : put G a o a = some o := if_pos rfl
theorem put_ne {G : Gp} {a b : Addr} {o : MO} (h : b ≠ a) : put G a o b = G b := if_neg h
theorem put_put {G : Gp} {a : Addr} {o u : MO} : put (put G a o) a u = put G a u := by
  funext b; unfold put; split <;> rfl

def KT (K : PySem.W.Frag) (p : Addr) (vs : List V) : Prop :=
  ∃ (o : Obj) (its : Array Value) (n : Nat), K.lookup p = some o ∧ o.cls = .type "tuple" ∧ o.data = .seq its n ∧ its.size ≤ sizeLine ∧ Vals vs its.toList
def KL (K : PySem.W.Frag) (p : Addr) (vs : List V) : Prop :=
  ∃ (o : Obj) (its : Array Value) (n : Nat), K.lookup p = some o ∧ o.cls = .type "list" ∧ o.dict = none ∧ o.data = .seq its n ∧ its.size ≤ sizeLine ∧ Vals vs its.toList
def FzAt (K : PySem.W.Frag) (G : Gp) (H : Hp) (p : Addr) (vs : List V) : Prop := (G p = none ∧ Rd H p (.lst vs)) ∨ KL K p vs
def TupAt (K : PySem.W.Frag) (G : Gp) (H : Hp) (p : Addr) (vs : List V) : Prop := (G p = none ∧ H p = some (.tup vs)) ∨ KT K p vs
def LstAt (K : PySem.W.Frag) (G : Gp) (H : Hp) (p : Addr) (vs : List V) : Prop := G p = none ∧ H p = some (.lst vs)
theorem TupAt.sq {K G H p vs} (h : TupAt K G H p vs) : SqT K H p vs := h.elim (fun h => .inl (.inl h.2)) .inr
theorem FzAt.sq {K G H p vs} (h : FzAt K G H p vs) : SqL K H p vs := h.elim (fun h => .inl h.2) .inr
theorem LstAt.sq {K G H p vs} (h : LstAt K G H p vs) : SqL K H p vs := .inl (.inl h.2)

mutual
def Rp (K : PySem.W.Frag) (G : Gp) (H : Hp) : D → V → Prop
  | .non, v => v = .non
  | .bl b, v => v = .bl b
  | .int i, v => v = .int i
  | .str x, v => v = .str x
  | .ref a, v => v = .ref a
  | .ty n, v => v = .ty n
  | .tup ws, v => ∃ p vs, v = .ref p ∧ TupAt K G H p vs ∧ RpL K G H ws vs
  | .lst ws, v => ∃ p vs, v = .ref p ∧ LstAt K G H p vs ∧ RpL K G H ws vs
  | .fz ws, v => ∃ p vs, v = .ref p ∧ FzAt K G H p vs ∧ RpL K G H ws vs
def RpL (K : PySem.W.Frag) (G : Gp) (H : Hp) : List D → List V → Prop
  | [], vs => vs = []
  | w :: ws, vs => ∃ v r, vs = v :: r ∧ Rp K G H w v ∧ RpL K G H ws r
end

/-- what nobody changes stays -/
def Kp (G : Gp) (H : Hp) (G' : Gp) (H' : Hp) : Prop := ∀ a o, G a = none → H a = some o → G' a = none ∧ H' a = some o
theorem Kp.refl (G : Gp) (H : Hp) : Kp G H G H := fun _ _ g h => ⟨g, h⟩
theorem Kp.trans {G H G1 H1 G2 H2} (a : Kp G H G1 H1) (b : Kp G1 H1 G2 H2) : Kp G H G2 H2 := fun c o g h => let ⟨g1, h1⟩ := a c o g h; b c o g1 h1
theorem Kp.rd {G H G' H'} (k : Kp G H G' H') {p : Addr} {u : HO} (g : G p = none) (r : Rd H p u) : G' p = none ∧ Rd H' p u := by
  rcases r with r | ⟨o, r⟩
  · obtain ⟨a, b⟩ := k _ _ g r; exact ⟨a, .inl b⟩
  · obtain ⟨a, b⟩ := k _ _ g r; exact ⟨a, .inr ⟨o, b⟩⟩
section
variable {K : PySem.W.Frag} {G G' : Gp} {H H' : Hp}
theorem TupAt.keep (k : Kp G H G' H') {p vs} : TupAt K G H p vs → TupAt K G' H' p vs
  | .inl ⟨g, r⟩ => .inl (k _ _ g r)
  | .inr h => .inr h
theorem FzAt.keep (k : Kp G H G' H') {p vs} : FzAt K G H p vs → FzAt K G' H' p vs
  | .inl ⟨g, r⟩ => .inl (k.rd g r)
  | .inr h => .inr h
theorem LstAt.keep (k : Kp G H G' H') {p vs} : LstAt K G H p vs → LstAt K G' H' p vs := fun ⟨g, r⟩ => k _ _ g r
mutual
theorem Rp.keep (k : Kp G H G' H') : ∀ (w : D) (v : V), Rp K G H w v → Rp K G' H' w v
  | .non, _, h => h
  | .bl _, _, h => h
  | .int _, _, h => h
  | .str _, _, h => h
  | .ref _, _, h => h
  | .ty _, _, h => h
  | .tup ws, _, ⟨p, vs, e, t, r⟩ => ⟨p, vs, e, t.keep k, RpL.keep k ws vs r⟩
  | .lst ws, _, ⟨p, vs, e, t, r⟩ => ⟨p, vs, e, t.keep k, RpL.keep k ws vs r⟩
  | .fz ws, _, ⟨p, vs, e, t, r⟩ => ⟨p, vs, e, t.keep k, RpL.keep k ws vs r⟩
theorem RpL.keep (k : Kp G H G' H') : ∀ (ws : List D) (vs : List V), RpL K G H ws vs → RpL K G' H' ws vs
  | [], _, h => h
  | w :: ws, _, ⟨v, r, e, h, t⟩ => ⟨v, r, e, Rp.keep k w v h, RpL.keep k ws r t⟩
end
theorem Rp.kp {w v} (h : Rp K G H w v) (k : Kp G H G' H') : Rp K G' H' w v := Rp.keep k w v h
theorem RpL.kp {ws vs} (h : RpL K G H ws vs) (k : Kp G H G' H') : RpL K G' H' ws vs := RpL.keep k ws vs h
theorem RpL.nil : RpL K G H [] [] := rfl
theorem RpL.cons {w v ws vs} (h : Rp K G H w v) (t : RpL K G H ws vs) : RpL K G H (w :: ws) (v :: vs) := ⟨v, vs, rfl, h, t⟩
theorem RpL.length : ∀ {ws vs}, RpL K G H ws vs → vs.length = ws.length
  | [], _, h => by cases (show _ = _ from h); rfl
  | w :: ws, _, ⟨v, r, e, _, t⟩ => by rw [e, List.length_cons, List.length_cons, RpL.length t]
theorem RpL.get : ∀ {ws : List D} {vs : List V} {i : Nat} {w : D}, RpL K G H ws vs → ws[i]? = some w → ∃ v, vs[i]? = some v ∧ Rp K G H w v
  | [], _, _, _, _, e => by simp at e
  | x :: ws, _, 0, w, ⟨v, r, e, h, t⟩, q => by
    have : x = w := by simpa using q
    subst this; subst e; exact ⟨v, rfl, h⟩
  | x :: ws, _, i + 1, w, ⟨v, r, e, h, t⟩, q => by
    subst e
    obtain ⟨u, a, b⟩ := RpL.get (i := i) (w := w) t (by simpa using q)
    exact ⟨u, by simpa using a, b⟩
theorem RpL.getV : ∀ {ws : List D} {vs : List V} {i : Nat} {v : V}, RpL K G H ws vs → vs[i]? = some v → ∃ w, ws[i]? = some w ∧ Rp K G H w v
  | [], vs, _, _, h, e => by cases (show vs = [] from h); simp at e
  | x :: ws, _, 0, w, ⟨v, r, e, h, t⟩, q => by
    subst e
    have : v = w := by simpa using q
    subst this; exact ⟨x, rfl, h⟩
  | x :: ws, _, i + 1, w, ⟨v, r, e, h, t⟩, q => by
    subst e
    obtain ⟨u, a, b⟩ := RpL.getV (i := i) (v := w) t (by simpa using q)
    exact ⟨u, by simpa using a, b⟩
theorem RpL.append : ∀ {ws vs xs ys}, RpL K G H ws vs → RpL K G H xs ys → RpL K G H (ws ++ xs) (vs ++ ys)
  | [], _, _, _, h, s => by cases (show _ = _ from h); exact s
  | w :: ws, _, _, _, ⟨v, r, e, h, t⟩, s => by subst e; exact ⟨v, _, rfl, h, RpL.append t s⟩
theorem RpL.split : ∀ {ws xs : List D} {vs : List V}, RpL K G H (ws ++ xs) vs → ∃ a b, vs = a ++ b ∧ RpL K G H ws a ∧ RpL K G H xs b
  | [], _, vs, h => ⟨[], vs, rfl, rfl, h⟩
  | w :: ws, _, _, ⟨v, r, e, h, t⟩ => by
    obtain ⟨a, b, e', h1, h2⟩ := RpL.split (ws := ws) t
    subst e; subst e'
    exact ⟨v :: a, b, rfl, ⟨v, a, rfl, h, h1⟩, h2⟩
theorem RpL.take : ∀ {ws vs} (n : Nat), RpL K G H ws vs → RpL K G H (ws.take n) (vs.take n)
  | _, _, 0, _ => rfl
  | [], _, n + 1, h => by cases (show _ = _ from h); exact rfl
  | w :: ws, _, n + 1, ⟨v, r, e, h, t⟩ => by subst e; exact ⟨v, _, rfl, h, RpL.take n t⟩
theorem RpL.drop : ∀ {ws vs} (n : Nat), RpL K G H ws vs → RpL K G H (ws.drop n) (vs.drop n)
  | _, _, 0, h => h
  | [], _, n + 1, h => by cases (show _ = _ from h); exact rfl
  | w :: ws, _, n + 1, ⟨v, r, e, h, t⟩ => by subst e; exact RpL.drop n t
theorem RpL.set {w v} (hw : Rp K G H w v) : ∀ {ws vs} (n : Nat), RpL K G H ws vs → RpL K G H (ws.set n w) (vs.set n v)
  | [], _, n, h => by cases (show _ = _ from h); exact rfl
  | x :: ws, _, 0, ⟨y, r, e, h, t⟩ => by subst e; exact ⟨v, r, rfl, hw, t⟩
  | x :: ws, _, n + 1, ⟨y, r, e, h, t⟩ => by subst e; exact ⟨y, _, rfl, h, RpL.set hw n t⟩
theorem RpL.reverse {ws vs} (h : RpL K G H ws vs) : RpL K G H ws.reverse vs.reverse := by
  induction ws generalizing vs with
  | nil => cases (show _ = _ from h); exact rfl
  | cons w ws ih =>
    obtain ⟨v, r, e, h, t⟩ := h
    subst e
    rw [List.reverse_cons, List.reverse_cons]
    exact (ih t).append ⟨v, [], rfl, h, rfl⟩
theorem RpL.eraseIdx : ∀ {ws vs} (n : Nat), RpL K G H ws vs → RpL K G H (ws.eraseIdx n) (vs.eraseIdx n)
  | [], _, n, h => by cases (show _ = _ from h); exact rfl
  | x :: ws, _, 0, ⟨y, r, e, h, t⟩ => by subst e; exact t
  | x :: ws, _, n + 1, ⟨y, r, e, h, t⟩ => by subst e; exact ⟨y, _, rfl, h, RpL.eraseIdx n t⟩
theorem RpL.insertIdx {w v} (hw : Rp K G H w v) : ∀ {ws vs} (n : Nat), RpL K G H ws vs → RpL K G H (ws.insertIdx n w) (vs.insertIdx n v)
  | _, _, 0, h => ⟨v, _, rfl, hw, h⟩
  | [], _, n + 1, h => by cases (show _ = _ from h); exact rfl
  | x :: ws, _, n + 1, ⟨y, r, e, h, t⟩ => by subst e; exact ⟨y, _, rfl, h, RpL.insertIdx hw n t⟩
theorem RpL.dropLast {ws vs} (h : RpL K G H ws vs) : RpL K G H ws.dropLast vs.dropLast := by
  rw [List.dropLast_eq_take, List.dropLast_eq_take, h.length]
  exact h.take _
theorem RpL.rep {ws vs} (h : RpL K G H ws vs) : ∀ k : Nat, RpL K G H (List.replicate k ws).flatten (List.replicate k vs).flatten
  | 0 => rfl
  | k + 1 => by rw [List.replicate_succ, List.replicate_succ, List.flatten_cons, List.flatten_cons]; exact h.append (RpL.rep h k)
end
end ML

set_option maxRecDepth 100000
namespace ML
open PySem PySem.Spec L2
open PyProof.Rows hiding St

/-! ### objects, slots -/
def RF (K : PySem.W.Frag) (G : Gp) (H : Hp) : List (Str × D) → List (Str × V) → Prop
  | [], vs => vs = []
  | (n, w) :: r, vs => ∃ v t, vs = (n, v) :: t ∧ Rp K G H w v ∧ RF K G H r t
def RKv (K : PySem.W.Frag) (G : Gp) (H : Hp) : List (Key × D) → List (Key × V) → Prop
  | [], vs => vs = []
  | (n, w) :: r, vs => ∃ v t, vs = (n, v) :: t ∧ Rp K G H w v ∧ RKv K G H r t
def RO (K : PySem.W.Frag) (G : Gp) (H : Hp) (a : Addr) : MO → Prop
  | .lst ws => ∃ vs, H a = some (.lst vs) ∧ RpL K G H ws vs
  | .ins C fs => ∃ dx gs, H a = some (.ins C dx gs) ∧ G dx = none ∧ H dx = some (.own a) ∧ RF K G H fs gs
  | .dic kvs => ∃ lvs, H a = some (.dK lvs) ∧ RKv K G H kvs lvs
def RG (K : PySem.W.Frag) (G : Gp) (H : Hp) : Prop := ∀ a o, G a = some o → RO K G H a o
abbrev Sl := List (Option D)
def RS (K : PySem.W.Frag) (G : Gp) (H : Hp) (τ : Sl) (σ : St) : Prop := τ.length = σ.length ∧ ∀ (i : Nat) (w : D), τ[i]? = some (some w) → ∃ v, σ[i]? = some (some v) ∧ Rp K G H w v
section
variable {K : PySem.W.Frag} {G G' : Gp} {H H' : Hp} {τ : Sl} {σ : St}
theorem RF.kp (k : Kp G H G' H') : ∀ {fs gs}, RF K G H fs gs → RF K G' H' fs gs
  | [], _, h => h
  | (n, w) :: r, _, ⟨v, t, e, h, s⟩ => ⟨v, t, e, h.kp k, RF.kp k s⟩
theorem RKv.kp (k : Kp G H G' H') : ∀ {fs gs}, RKv K G H fs gs → RKv K G' H' fs gs
  | [], _, h => h
  | (n, w) :: r, _, ⟨v, t, e, h, s⟩ => ⟨v, t, e, h.kp k, RKv.kp k s⟩
theorem RS.kp (k : Kp G H G' H') (h : RS K G H τ σ) : RS K G' H' τ σ := ⟨h.1, fun i w e => let ⟨v, a, b⟩ := h.2 i w e; ⟨v, a, b.kp k⟩⟩
theorem RG.fresh (g : RG K G H) {p : Addr} (h : H p = none) : G p = none := by
  cases e : G p with
  | none => rfl
  | some o =>
    have := g p o e
    cases o with
    | lst ws => obtain ⟨vs, q, _⟩ := this; rw [h] at q; cases q
    | ins C fs => obtain ⟨dx, gs, q, _⟩ := this; rw [h] at q; cases q
    | dic kvs => obtain ⟨vs, q, _⟩ := this; rw [h] at q; cases q
theorem RS.set (h : RS K G H τ σ) {w : D} {v : V} (r : Rp K G H w v) (i : Nat) : RS K G H (τ.set i (some w)) (σ.set i (some v)) := by
  refine ⟨by simpa using h.1, fun j u e => ?_⟩
  by_cases hj : j = i
  · subst hj
    by_cases hl : j < τ.length
    · rw [List.getElem?_set_self hl] at e
      cases e
      exact ⟨v, List.getElem?_set_self (by rw [← h.1]; exact hl), r⟩
    · rw [List.getElem?_eq_none_iff.mpr (by rw [List.length_set]; omega)] at e; cases e
  · rw [List.getElem?_set_ne (Ne.symm hj)] at e
    obtain ⟨x, a, b⟩ := h.2 j u e
    exact ⟨x, by rw [List.getElem?_set_ne (Ne.symm hj)]; exact a, b⟩
/-- a new object that nobody changes -/
theorem kp_new {p : Addr} {o : HO} (h : H p = none) : Kp G H G (upd H p o) := fun a u g e => ⟨g, by rw [upd_ne (ne_of_none e h)]; exact e⟩
theorem ne_fresh {a p : Addr} {o : HO} (h : H p = none) (e : H a = some o) : a ≠ p := ne_of_none e h
theorem RO.kp_same {a : Addr} {o : MO} (k : Kp G H G' H') (ha : ∀ u, H a = some u → H' a = some u) (h : RO K G H a o) : RO K G' H' a o := by
  cases o with
  | lst ws => obtain ⟨vs, e, r⟩ := h; exact ⟨vs, ha _ e, r.kp k⟩
  | ins C fs =>
    obtain ⟨dx, gs, e, g, hd, r⟩ := h
    obtain ⟨g', hd'⟩ := k _ _ g hd
    exact ⟨dx, gs, ha _ e, g', hd', r.kp k⟩
  | dic kvs => obtain ⟨vs, e, r⟩ := h; exact ⟨vs, ha _ e, r.kp k⟩
theorem rg_new {p : Addr} {o : HO} (g : RG K G H) (h : H p = none) : RG K G (upd H p o) := fun a u e =>
  (g a u e).kp_same (kp_new h) fun x ex => by rw [upd_ne (ne_of_none ex h)]; exact ex
/-- a new object of its own -/
theorem kp_own {p : Addr} {o : HO} {m : MO} (h : H p = none) : Kp G H (put G p m) (upd H p o) := fun a u g e => by
  have ne := ne_of_none e h
  exact ⟨by rw [put_ne ne]; exact g, by rw [upd_ne ne]; exact e⟩
theorem rg_own {p : Addr} {vs : List V} {ws : List D} (g : RG K G H) (h : H p = none) (r : RpL K G H ws vs) : RG K (put G p (.lst ws)) (upd H p (.lst vs)) := fun a u e => by
  by_cases ha : a = p
  · subst ha
    rw [put_same] at e
    cases e
    exact ⟨vs, upd_same, r.kp (kp_own h)⟩
  · rw [put_ne ha] at e
    exact (g a u e).kp_same (kp_own h) fun x ex => by rw [upd_ne ha]; exact ex
/-- an object of its own changes -/
theorem kp_put {p : Addr} {o : HO} {m m' : MO} (h : G p = some m) : Kp G H (put G p m') (upd H p o) := fun a u g e => by
  have ne : a ≠ p := by intro z; subst z; rw [h] at g; cases g
  exact ⟨by rw [put_ne ne]; exact g, by rw [upd_ne ne]; exact e⟩
theorem rg_put {p : Addr} {vs : List V} {ws : List D} {m : MO} (g : RG K G H) (h : G p = some m) (r : RpL K G H ws vs) : RG K (put G p (.lst ws)) (upd H p (.lst vs)) := fun a u e => by
  by_cases ha : a = p
  · subst ha
    rw [put_same] at e
    cases e
    exact ⟨vs, upd_same, r.kp (kp_put h)⟩
  · rw [put_ne ha] at e
    exact (g a u e).kp_same (kp_put h) fun x ex => by rw [upd_ne ha]; exact ex
/-- an object of its own that nobody will change any more -/
theorem kp_del {p : Addr} : Kp G H (del G p) H := fun a u g e => by
  refine ⟨?_, e⟩
  unfold del
  split
  · rfl
  · exact g
theorem rg_del {p : Addr} (g : RG K G H) : RG K (del G p) H := fun a u e => by
  have : G a = some u := by
    unfold del at e
    split at e
    · cases e
    · exact e
  exact (g a u this).kp_same kp_del fun x ex => ex
end

/-! ### what a part of the program sees, and the rest -/
def jn (G F : Gp) : Gp := fun a => match G a with
  | some o => some o
  | none => F a
def Dj (G F : Gp) : Prop := ∀ a o, G a = some o → F a = none
def no : Gp := fun _ => none
theorem jn_some {G F : Gp} {a : Addr} {o : MO} (h : G a = some o) : jn G F a = some o := by unfold jn; rw [h]
theorem jn_none {G F : Gp} {a : Addr} (h : G a = none) : jn G F a = F a := by unfold jn; rw [h]
theorem jn_free {G F : Gp} {a : Addr} (h : jn G F a = none) : G a = none ∧ F a = none := by
  cases e : G a with
  | none => exact ⟨rfl, by rw [← jn_none (F := F) e]; exact h⟩
  | some o => rw [jn_some e] at h; cases h
theorem jn_no (G : Gp) : jn G no = G := by
  funext a
  cases e : G a with
  | none => rw [jn_none e]; rfl
  | some o => exact jn_some e
theorem dj_no (G : Gp) : Dj G no := fun _ _ _ => rfl
theorem jn_put {G F : Gp} {a : Addr} {o : MO} : jn (put G a o) F = put (jn G F) a o := by
  funext b
  by_cases h : b = a
  · subst h; rw [put_same, jn_some put_same]
  · rw [put_ne h]
    cases e : G b with
    | none => rw [jn_none e, jn_none (by rw [put_ne h]; exact e)]
    | some u => rw [jn_some e, jn_some (by rw [put_ne h]; exact e)]
theorem dj_put {G F : Gp} {a : Addr} {o : MO} (d : Dj G F) (h : F a = none) : Dj (put G a o) F := fun b u e => by
  by_cases hb : b = a
  · subst hb; exact h
  · rw [put_ne hb] at e; exact d b u e
theorem jn_assoc (G F E : Gp) : jn (jn G F) E = jn G (jn F E) := by
  funext a
  cases e : G a with
  | some o => rw [jn_some e, jn_some (jn_some e)]
  | none =>
    rw [jn_none e]
    cases e2 : F a with
    | some o => rw [jn_some e2, jn_some (by rw [jn_none e]; exact e2)]
    | none => rw [jn_none e2, jn_none (by rw [jn_none e]; exact e2)]

/-- where a def's body began -/
structure Bs where
  G : Gp
  H : Hp
structure RB (B : Bs) (K : PySem.W.Frag) (G : Gp) (H : Hp) : Prop where
  rg : RG K G H
  kp : Kp B.G B.H G H
theorem RB.go {B : Bs} {K : PySem.W.Frag} {G G' : Gp} {H H' : Hp} (b : RB B K G H) (k : Kp G H G' H') (rg : RG K G' H') : RB B K G' H' := ⟨rg, b.kp.trans k⟩

/-! ### judgements -/
abbrev MK := D → Gp → Prop
abbrev TEm := Sl → Gp → MK → Prop
abbrev TTm := Sl → Gp → (Bool → Gp → Prop) → Prop
abbrev TAm := Sl → Gp → (List D → Gp → Prop) → Prop
/-- what is wanted, seen below; F: what this part does not see -/
def Po (K : PySem.W.Frag) (F G : Gp) (H : Hp) (Q : MK) (v : V) (H' : Hp) : Prop := ∃ w G', Dj G' F ∧ Kp (jn G F) H (jn G' F) H' ∧ RG K (jn G' F) H' ∧ Rp K (jn G' F) H' w v ∧ Q w G'
def PoT (K : PySem.W.Frag) (F G : Gp) (H : Hp) (Q : Bool → Gp → Prop) (b : Bool) (H' : Hp) : Prop := ∃ G', Dj G' F ∧ Kp (jn G F) H (jn G' F) H' ∧ RG K (jn G' F) H' ∧ Q b G'
def PoA (K : PySem.W.Frag) (F G : Gp) (H : Hp) (Q : List D → Gp → Prop) (vs : List V) (H' : Hp) : Prop := ∃ ws G', Dj G' F ∧ Kp (jn G F) H (jn G' F) H' ∧ RG K (jn G' F) H' ∧ RpL K (jn G' F) H' ws vs ∧ Q ws G'
def liftE (B : Bs) (K : PySem.W.Frag) (T : TEm) : TE := fun σ H Q => ∃ τ G F q, Dj G F ∧ RS K (jn G F) H τ σ ∧ RB B K (jn G F) H ∧ T τ G q ∧ ∀ v H', Po K F G H q v H' → Q v H'
def liftT (B : Bs) (K : PySem.W.Frag) (T : TTm) : TT := fun σ H Q => ∃ τ G F q, Dj G F ∧ RS K (jn G F) H τ σ ∧ RB B K (jn G F) H ∧ T τ G q ∧ ∀ v H', PoT K F G H q v H' → Q v H'
def liftA (B : Bs) (K : PySem.W.Frag) (T : TAm) : TA := fun σ H Q => ∃ τ G F q, Dj G F ∧ RS K (jn G F) H τ σ ∧ RB B K (jn G F) H ∧ T τ G q ∧ ∀ v H', PoA K F G H q v H' → Q v H'
def ME (B : Bs) (X : Cx) (e : Expr) (T : TEm) : Prop := PE X e (liftE B X.K T)
def MT (B : Bs) (X : Cx) (e : Expr) (T : TTm) : Prop := PT X e (liftT B X.K T)
def MA (B : Bs) (X : Cx) (es : List Expr) (T : TAm) : Prop := PA X es (liftA B X.K T)
theorem EP.to {X : Cx} {pins : List (Addr × Obj)} {σ : St} {Q Q' : VK} {u : Value} {s : Shared} (h : EP X pins σ Q u s) (k : ∀ v H, Q v H → Q' v H) : EP X pins σ Q' u s :=
  let ⟨v, H, I, r, q⟩ := h; ⟨v, H, I, r, k v H q⟩
theorem TP.to {X : Cx} {pins : List (Addr × Obj)} {σ : St} {Q Q' : Bool → Hp → Prop} {u : Bool} {s : Shared} (h : TP X pins σ Q u s) (k : ∀ v H, Q v H → Q' v H) : TP X pins σ Q' u s :=
  let ⟨H, I, q⟩ := h; ⟨H, I, k u H q⟩
theorem AP.to {X : Cx} {pins : List (Addr × Obj)} {σ : St} {Q Q' : List V → Hp → Prop} {u : List Value} {s : Shared} (h : AP X pins σ Q u s) (k : ∀ v H, Q v H → Q' v H) : AP X pins σ Q' u s :=
  let ⟨v, H, I, r, q⟩ := h; ⟨v, H, I, r, k v H q⟩
/-- from a rule of the layer below -/
theorem me_of {B : Bs} {X : Cx} {e : Expr} {t : TE} {T : TEm} (h : PE X e t) (k : ∀ σ H τ G F q, Dj G F → RS X.K (jn G F) H τ σ → RB B X.K (jn G F) H → T τ G q → t σ H (Po X.K F G H q)) : ME B X e T :=
  ⟨fun pins s σ H Q I ⟨τ, G, F, q, dj, rs, rg, ht, c⟩ => thn (h.run pins s σ H _ I (k σ H τ G F q dj rs rg ht)) fun u s' z => EP.to z c⟩
theorem mt_of {B : Bs} {X : Cx} {e : Expr} {t : TT} {T : TTm} (h : PT X e t) (k : ∀ σ H τ G F q, Dj G F → RS X.K (jn G F) H τ σ → RB B X.K (jn G F) H → T τ G q → t σ H (PoT X.K F G H q)) : MT B X e T :=
  ⟨fun pins s σ H Q I ⟨τ, G, F, q, dj, rs, rg, ht, c⟩ => thn (h.run pins s σ H _ I (k σ H τ G F q dj rs rg ht)) fun u s' z => TP.to z c⟩
theorem ma_of {B : Bs} {X : Cx} {e : List Expr} {t : TA} {T : TAm} (h : PA X e t) (k : ∀ σ H τ G F q, Dj G F → RS X.K (jn G F) H τ σ → RB B X.K (jn G F) H → T τ G q → t σ H (PoA X.K F G H q)) : MA B X e T :=
  ⟨fun pos pins s σ H Q I ⟨τ, G, F, q, dj, rs, rg, ht, c⟩ => thn (h.run pos pins s σ H _ I (k σ H τ G F q dj rs rg ht)) fun u s' z => AP.to z c⟩
section
variable {K : PySem.W.Frag} {F G : Gp} {H : Hp} {τ : Sl} {σ : St}
theorem Po.here {q : MK} {w : D} {v : V} (dj : Dj G F) (rg : RG K (jn G F) H) (r : Rp K (jn G F) H w v) (h : q w G) : Po K F G H q v H := ⟨w, G, dj, Kp.refl _ _, rg, r, h⟩
theorem Po.behind {q : MK} {G1 : Gp} {H1 : Hp} {v : V} {H' : Hp} (k : Kp (jn G F) H (jn G1 F) H1) (h : Po K F G1 H1 q v H') : Po K F G H q v H' :=
  let ⟨w, G', d, k', rg, r, z⟩ := h; ⟨w, G', d, k.trans k', rg, r, z⟩
theorem PoT.behind {q : Bool → Gp → Prop} {G1 : Gp} {H1 : Hp} {v : Bool} {H' : Hp} (k : Kp (jn G F) H (jn G1 F) H1) (h : PoT K F G1 H1 q v H') : PoT K F G H q v H' :=
  let ⟨G', d, k', rg, z⟩ := h; ⟨G', d, k.trans k', rg, z⟩
theorem PoA.behind {q : List D → Gp → Prop} {G1 : Gp} {H1 : Hp} {v : List V} {H' : Hp} (k : Kp (jn G F) H (jn G1 F) H1) (h : PoA K F G1 H1 q v H') : PoA K F G H q v H' :=
  let ⟨w, G', d, k', rg, r, z⟩ := h; ⟨w, G', d, k.trans k', rg, r, z⟩
/-- a new list: whole, or of its own -/
def newL (own : Bool) (ws : List D) (G : Gp) (q : MK) : Prop :=
  match own with
  | true => ∀ p, G p = none → q (.ref p) (put G p (.lst ws))
  | false => q (.lst ws) G
theorem new_lst {own : Bool} {ws : List D} {vs : List V} {q : MK} {p : Addr} (dj : Dj G F) (rg : RG K (jn G F) H) (hp : H p = none) (r : RpL K (jn G F) H ws vs) (h : newL own ws G q) : Po K F G H q (.ref p) (upd H p (.lst vs)) := by
  have fr := jn_free (rg.fresh hp)
  cases own with
  | true => exact ⟨.ref p, put G p (.lst ws), dj_put dj fr.2, by rw [jn_put]; exact kp_own hp, by rw [jn_put]; exact rg_own rg hp r, rfl, h p fr.1⟩
  | false => exact ⟨.lst ws, G, dj, kp_new hp, rg_new rg hp, ⟨p, vs, rfl, ⟨rg.fresh hp, upd_same⟩, r.kp (kp_new hp)⟩, h⟩
theorem new_tup {ws : List D} {vs : List V} {q : MK} {p : Addr} (dj : Dj G F) (rg : RG K (jn G F) H) (hp : H p = none) (r : RpL K (jn G F) H ws vs) (h : q (.tup ws) G) : Po K F G H q (.ref p) (upd H p (.tup vs)) :=
  ⟨.tup ws, G, dj, kp_new hp, rg_new rg hp, ⟨p, vs, rfl, .inl ⟨rg.fresh hp, upd_same⟩, r.kp (kp_new hp)⟩, h⟩
/-- an own list changes -/
theorem put_step {p : Addr} {vs : List V} {ws : List D} {m : MO} (dj : Dj G F) (rg : RG K (jn G F) H) (h : G p = some m) (r : RpL K (jn G F) H ws vs) :
    Dj (put G p (.lst ws)) F ∧ Kp (jn G F) H (jn (put G p (.lst ws)) F) (upd H p (.lst vs)) ∧ RG K (jn (put G p (.lst ws)) F) (upd H p (.lst vs)) :=
  ⟨dj_put dj (dj p m h), by rw [jn_put]; exact kp_put (jn_some h), by rw [jn_put]; exact rg_put rg (jn_some h) r⟩
end

/-! ### names, constants -/
def mVar (i : Nat) : TEm := fun τ G q => ∃ w, τ[i]? = some (some w) ∧ q w G
def mC (w : D) : TEm := fun _ G q => q w G
section
variable {B : Bs} {X : Cx} {a b c e : Expr} {es rest : List Expr} {pos : Pos} {Ta Tb Tc Te : TEm} {Tl : TAm}
theorem m_var {i : Nat} {x : Str} (hN : X.N[i]? = some x) (hv : Vis X.env.scope x) (hd : (x == ("__debug__" : Str)) = false := by decide) (hcd : (x == ("__classdict__" : Str)) = false := by decide) : ME B X (.Name x pos) (mVar i) :=
  me_of (pe_var hN hv hd hcd) fun σ H τ G F q dj rs rg h => by
    obtain ⟨w, e, h⟩ := h
    obtain ⟨v, ev, r⟩ := rs.2 i w e
    exact ⟨v, ev, Po.here dj rg.rg r h⟩
theorem mv (i : Nat) {x : Str} {pos : Pos} (hN : X.N[i]? = some x := by rfl) (hv : Vis X.env.scope x := by first | exact Or.inl rfl | exact Or.inr (Or.inl rfl) | exact Or.inr (Or.inr rfl)) (hd : (x == ("__debug__" : Str)) = false := by decide)
    (hcd : (x == ("__classdict__" : Str)) = false := by decide) : ME B X (.Name x pos) (mVar i) := m_var hN hv hd hcd
theorem m_int {i j pos} : ME B X (.Constant (.int i) j pos) (mC (.int i)) := me_of pe_int fun _ _ _ _ _ _ dj _ rg h => Po.here (w := .int i) dj rg.rg rfl h
theorem m_bl {i j pos} : ME B X (.Constant (.bool i) j pos) (mC (.bl i)) := me_of pe_bl fun _ _ _ _ _ _ dj _ rg h => Po.here (w := .bl i) dj rg.rg rfl h
theorem m_non {j pos} : ME B X (.Constant .none j pos) (mC .non) := me_of pe_non fun _ _ _ _ _ _ dj _ rg h => Po.here (w := .non) dj rg.rg rfl h
theorem m_str {i j pos} : ME B X (.Constant (.str i) j pos) (mC (.str i)) := me_of pe_str fun _ _ _ _ _ _ dj _ rg h => Po.here (w := .str i) dj rg.rg rfl h
/-- a name of the module -/
theorem m_glob {x : Str} {w : D} {v : V} {u : Value} {pos : Pos} (hg : Gl X x) (hm : X.mg x = some u) (r : RelV v u) (rp : ∀ G H, Rp X.K G H w v) (hd : (x == ("__debug__" : Str)) = false := by decide) : ME B X (.Name x pos) (mC w) :=
  me_of (pe_glob hg hm r hd) fun _ H _ G F _ dj _ rg h => Po.here dj rg.rg (rp _ H) h
theorem m_bltn {x : Str} {w : D} {v : V} {u : Value} {pos : Pos} (hg : Gl X x) (hm : X.mg x = none) (hv : bootBuiltins x = some u) (r : RelV v u) (rp : ∀ G H, Rp X.K G H w v) (hn : x ≠ "__name__" := by decide) (hd : (x == ("__debug__" : Str)) = false := by decide) : ME B X (.Name x pos) (mC w) :=
  me_of (pe_bltn hg hm hv r hn hd) fun _ H _ G F _ dj _ rg h => Po.here dj rg.rg (rp _ H) h

/-! ### operators -/
abbrev M2 := D → D → Gp → MK → Prop
def OpM (X : Cx) (f : Value → Value → Sem Value) (m : M2) : Prop :=
  ∀ (pins : List (Addr × Obj)) (s : Shared) (σ : St) (H : Hp) (G F : Gp) (x y : D) (xv yv : V) (v u : Value) (q : MK), Inv X pins σ H s → RelV xv v → RelV yv u → Dj G F → RG X.K (jn G F) H → Rp X.K (jn G F) H x xv → Rp X.K (jn G F) H y yv → m x y G q →
    wpAny (model X.prog X.w) X.A (f v u) (EP X pins σ (Po X.K F G H q)) X.xe s
def mOp (m : M2) (Ta Tb : TEm) : TEm := fun τ G q => Ta τ G fun x G1 => Tb τ G1 fun y G2 => m x y G2 q
def ROp (X : Cx) (m : M2) : R2 := fun xv yv H Q => ∃ G F x y q, Dj G F ∧ RG X.K (jn G F) H ∧ Rp X.K (jn G F) H x xv ∧ Rp X.K (jn G F) H y yv ∧ m x y G q ∧ ∀ v H', Po X.K F G H q v H' → Q v H'
theorem opR_of {f : Value → Value → Sem Value} {m : M2} (h : OpM X f m) : OpR X f (ROp X m) :=
  fun pins s σ H xv yv v u Q I rx ry ⟨G, F, x, y, q, dj, rg, px, py, hm, k⟩ => thn (h pins s σ H G F x y xv yv v u q I rx ry dj rg px py hm) fun u s z => EP.to z k
theorem two {m : M2} {σ : St} {H : Hp} {τ : Sl} {G F : Gp} {q : MK} (dj : Dj G F) (rs : RS X.K (jn G F) H τ σ) (rg : RB B X.K (jn G F) H) (h : mOp m Ta Tb τ G q) :
    tOp (ROp X m) (liftE B X.K Ta) (liftE B X.K Tb) σ H (Po X.K F G H q) :=
  ⟨τ, G, F, _, dj, rs, rg, h, fun v H1 ⟨w, G1, d1, k1, rg1, r1, h1⟩ => ⟨τ, G1, F, _, d1, rs.kp k1, rg.go k1 rg1, h1, fun v2 H2 ⟨w2, G2, d2, k2, rg2, r2, h2⟩ => ⟨G2, F, w, w2, q, d2, rg2, r1.kp k2, r2, h2, fun v H' z => z.behind (k1.trans k2)⟩⟩⟩
theorem m_op {op : Operator} {m : M2} (ho : OpM X (binaryOp op) m) (ha : ME B X a Ta) (hb : ME B X b Tb) : ME B X (.BinOp a op b pos) (mOp m Ta Tb) :=
  me_of (pe_op (opR_of ho) ha hb) fun _ _ _ _ _ _ dj rs rg h => two dj rs rg h
theorem m_cmp {op : CmpOp} {m : M2} (ho : OpM X (compareOp op) m) (ha : ME B X a Ta) (hb : ME B X b Tb) (hm : behindInMarks op b = false := by first | exact nomark _ | rfl) : ME B X (.Compare a [op] [b] pos) (mOp m Ta Tb) :=
  me_of (pe_cmpR (opR_of ho) ha hb hm) fun _ _ _ _ _ _ dj rs rg h => two dj rs rg h
def mTest (T : TEm) : TTm := fun τ G q => T τ G fun x G1 => match x with | .bl b => q b G1 | _ => False
theorem PoT.of_bl {K : PySem.W.Frag} {F G : Gp} {H : Hp} {q : Bool → Gp → Prop} {v : V} {H' : Hp} (h : Po K F G H (fun x G1 => match x with | .bl b => q b G1 | _ => False) v H') : ∃ k, v = .bl k ∧ PoT K F G H q k H' := by
  obtain ⟨w, G', d, k, rg, r, z⟩ := h
  cases w with
  | bl b => exact ⟨b, r, G', d, k, rg, z⟩
  | _ => exact z.elim
theorem mt_cmp {op : CmpOp} {m : M2} (ho : OpM X (compareOp op) m) (ha : ME B X a Ta) (hb : ME B X b Tb) (hm : behindInMarks op b = false := by first | exact nomark _ | rfl) : MT B X (.Compare a [op] [b] pos) (mTest (mOp m Ta Tb)) :=
  mt_of (pt_cmpR (opR_of ho) ha hb hm) fun σ H τ G F q dj rs rg h =>
    ⟨τ, G, F, _, dj, rs, rg, h, fun v H1 ⟨w, G1, d1, k1, rg1, r1, h1⟩ => ⟨τ, G1, F, _, d1, rs.kp k1, rg.go k1 rg1, h1, fun v2 H2 ⟨w2, G2, d2, k2, rg2, r2, h2⟩ => ⟨G2, F, w, w2, _, d2, rg2, r1.kp k2, r2, h2, fun v H' z => by
      obtain ⟨b, e, z⟩ := PoT.of_bl z
      exact ⟨b, e, z.behind (k1.trans k2)⟩⟩⟩⟩
/-- a test that is a True or False -/
theorem mt_val (he : ME B X e Te) (hw : ∀ whole, isTrue e X.env whole = (do let v ← whole; standAt e.pos; holding [v] (truthy v)) := by intro _; rfl) : MT B X e (mTest Te) :=
  mt_of (pt_val he hw) fun σ H τ G F q dj rs rg h => ⟨τ, G, F, _, dj, rs, rg, h, fun v H1 z => PoT.of_bl z⟩
end
end ML

set_option maxRecDepth 100000
namespace ML
open PySem PySem.Spec L2
open PyProof.Rows hiding St

/-! ### == of data -/
mutual
def eqD : D → D → Bool
  | .non, .non => true
  | .bl a, .bl b => a == b
  | .bl a, .int j => (if a then 1 else 0) == j
  | .int i, .bl b => i == (if b then 1 else 0)
  | .int i, .int j => i == j
  | .str x, .str y => x == y
  | .lst xs, .lst ys => eqDs xs ys
  | .tup xs, .tup ys => eqDs xs ys
  | _, _ => false
def eqDs : List D → List D → Bool
  | [], [] => true
  | x :: xs, y :: ys => eqD x y && eqDs xs ys
  | _, _ => false
end
mutual
def pd : D → PyData
  | .non => .none
  | .bl b => .bool b
  | .int i => .int i
  | .str x => .str x
  | .lst xs => .list (pds xs)
  | .tup xs => .tuple (pds xs)
  | _ => .none
def pds : List D → List PyData
  | [] => []
  | x :: xs => pd x :: pds xs
end
/-! data: no objects; its texts are texts -/
mutual
def okD : D → Bool
  | .non | .bl _ | .int _ => true
  | .str x => PyData.strOk x
  | .lst xs | .tup xs => okDs xs
  | _ => false
def okDs : List D → Bool
  | [] => true
  | x :: xs => okD x && okDs xs
end
mutual
def dep : D → Nat
  | .lst xs | .tup xs => deps xs + 1
  | _ => 0
def deps : List D → Nat
  | [] => 0
  | x :: xs => max (dep x) (deps xs)
end
theorem okDs_cons {x : D} {xs : List D} : okDs (x :: xs) = (okD x && okDs xs) := rfl
mutual
theorem can_of : ∀ d : D, okD d = true → (pd d).canLay0 = true
  | .non, _ => rfl
  | .bl _, _ => rfl
  | .int _, _ => rfl
  | .str x, h => h
  | .lst xs, h => by simpa [pd, PyData.canLay0] using cans_of xs h
  | .tup xs, h => by simpa [pd, PyData.canLay0] using cans_of xs h
  | .ref _, h => by cases h
  | .ty _, h => by cases h
  | .fz _, h => by cases h
theorem cans_of : ∀ ds : List D, okDs ds = true → PyData.canLayAll0 (pds ds) = true
  | [], _ => rfl
  | x :: xs, h => by
    have h' := Bool.and_eq_true_iff.mp h
    show ((pd x).canLay0 && PyData.canLayAll0 (pds xs)) = true
    rw [can_of x h'.1, cans_of xs h'.2]; rfl
end
mutual
theorem dep_pd : ∀ d : D, (pd d).depth ≤ dep d
  | .non => by simp [pd, dep, PyData.depth]
  | .bl _ => by simp [pd, dep, PyData.depth]
  | .int _ => by simp [pd, dep, PyData.depth]
  | .str x => by simp [pd, dep, PyData.depth]
  | .lst xs => by
    have := deps_pd xs
    simp only [pd, dep, PyData.depth]
    omega
  | .tup xs => by
    have := deps_pd xs
    simp only [pd, dep, PyData.depth]
    omega
  | .ref _ => by simp [pd, dep, PyData.depth]
  | .ty _ => by simp [pd, dep, PyData.depth]
  | .fz _ => by simp [pd, dep, PyData.depth]
theorem deps_pd : ∀ ds : List D, PyData.depthAll (pds ds) ≤ deps ds
  | [] => by simp [pds, deps, PyData.depthAll]
  | x :: xs => by
    have h1 := dep_pd x
    have h2 := deps_pd xs
    simp only [pds, deps, PyData.depthAll]
    omega
end
mutual
theorem eqv_pd : ∀ d e : D, okD d = true → okD e = true → PyData.eqv (pd d) (pd e) = eqD d e
  | .non, .non, _, _ => rfl
  | .non, .bl _, _, _ => rfl
  | .non, .int _, _, _ => rfl
  | .non, .str _, _, _ => rfl
  | .non, .lst _, _, _ => rfl
  | .non, .tup _, _, _ => rfl
  | .bl _, .non, _, _ => rfl
  | .bl _, .bl _, _, _ => rfl
  | .bl _, .int _, _, _ => rfl
  | .bl _, .str _, _, _ => rfl
  | .bl _, .lst _, _, _ => rfl
  | .bl _, .tup _, _, _ => rfl
  | .int _, .non, _, _ => rfl
  | .int _, .bl _, _, _ => rfl
  | .int _, .int _, _, _ => rfl
  | .int _, .str _, _, _ => rfl
  | .int _, .lst _, _, _ => rfl
  | .int _, .tup _, _, _ => rfl
  | .str _, .non, _, _ => rfl
  | .str _, .bl _, _, _ => rfl
  | .str _, .int _, _, _ => rfl
  | .str _, .str _, _, _ => rfl
  | .str _, .lst _, _, _ => rfl
  | .str _, .tup _, _, _ => rfl
  | .lst _, .non, _, _ => rfl
  | .lst _, .bl _, _, _ => rfl
  | .lst _, .int _, _, _ => rfl
  | .lst _, .str _, _, _ => rfl
  | .lst xs, .lst ys, h1, h2 => eqvs_pd xs ys h1 h2
  | .lst _, .tup _, _, _ => rfl
  | .tup _, .non, _, _ => rfl
  | .tup _, .bl _, _, _ => rfl
  | .tup _, .int _, _, _ => rfl
  | .tup _, .str _, _, _ => rfl
  | .tup _, .lst _, _, _ => rfl
  | .tup xs, .tup ys, h1, h2 => eqvs_pd xs ys h1 h2
  | .ref _, _, h, _ => by cases h
  | .ty _, _, h, _ => by cases h
  | .fz _, _, h, _ => by cases h
  | _, .ref _, _, h => by cases h
  | _, .ty _, _, h => by cases h
  | _, .fz _, _, h => by cases h
theorem eqvs_pd : ∀ ds es : List D, okDs ds = true → okDs es = true → PyData.eqvAll (pds ds) (pds es) = eqDs ds es
  | [], [], _, _ => rfl
  | [], _ :: _, _, _ => rfl
  | _ :: _, [], _, _ => rfl
  | x :: xs, y :: ys, h1, h2 => by
    have a := Bool.and_eq_true_iff.mp h1
    have b := Bool.and_eq_true_iff.mp h2
    show (PyData.eqv (pd x) (pd y) && PyData.eqvAll (pds xs) (pds ys)) = (eqD x y && eqDs xs ys)
    rw [eqv_pd x y a.1 b.1, eqvs_pd xs ys a.2 b.2]
end
theorem shaped_pd {d : D} (h : okD d = true) (hd : dep d ≤ 64) : SeqAt.shaped (pd d) = true := by
  unfold SeqAt.shaped
  rw [can_of d h, Bool.true_and]
  exact decide_eq_true (Nat.le_trans (dep_pd d) hd)
section
variable {K : PySem.W.Frag} {G : Gp} {H : Hp}
mutual
theorem dp_of : ∀ (d : D) (v : V), okD d = true → Rp K G H d v → Dp K H v (pd d)
  | .non, _, _, r => by cases (show _ = V.non from r); exact .non
  | .bl b, _, _, r => by cases (show _ = V.bl b from r); exact .bl b
  | .int b, _, _, r => by cases (show _ = V.int b from r); exact .int b
  | .str b, _, _, r => by cases (show _ = V.str b from r); exact .str b
  | .lst xs, _, h, ⟨p, vs, e, a, r⟩ => by subst e; exact .lst a.sq (dps_of xs vs h r)
  | .tup xs, _, h, ⟨p, vs, e, a, r⟩ => by subst e; exact .tup a.sq (dps_of xs vs h r)
  | .ref _, _, h, _ => by cases h
  | .ty _, _, h, _ => by cases h
  | .fz _, _, h, _ => by cases h
theorem dps_of : ∀ (ds : List D) (vs : List V), okDs ds = true → RpL K G H ds vs → DpAll K H vs (pds ds)
  | [], _, _, r => by cases (show _ = _ from r); exact .nil
  | x :: xs, _, h, ⟨v, t, e, a, r⟩ => by
    have h' := Bool.and_eq_true_iff.mp h
    subst e
    exact .cons (dp_of x v h'.1 a) (dps_of xs t h'.2 r)
end
end
/-- x, or what an own list holds -/
def Sees (G : Gp) (x x' : D) : Prop := x' = x ∨ ∃ a ws, x = .ref a ∧ G a = some (.lst ws) ∧ x' = .lst ws
theorem Sees.dp {K : PySem.W.Frag} {F G : Gp} {H : Hp} {x x' : D} {v : V} (h : Sees G x x') (rg : RG K (jn G F) H) (r : Rp K (jn G F) H x v) (o : okD x' = true) : Dp K H v (pd x') := by
  rcases h with e | ⟨a, ws, e, g, e'⟩
  · subst e; exact dp_of _ v o r
  · subst e; subst e'
    obtain ⟨vs, hv, rv⟩ := rg a _ (jn_some g)
    cases (show v = .ref a from r)
    exact .lst (.inl (.inl hv)) (dps_of ws vs o rv)

/-! ### the list that a value is -/
def LstOf (G : Gp) (x : D) (ws : List D) : Prop :=
  match x with
  | .lst us => ws = us
  | .fz us => ws = us
  | .ref a => G a = some (.lst ws)
  | _ => False
def SeqOf (G : Gp) (x : D) (ws : List D) : Prop :=
  match x with
  | .lst us => ws = us
  | .fz us => ws = us
  | .tup us => ws = us
  | .ref a => G a = some (.lst ws)
  | _ => False
section
variable {K : PySem.W.Frag} {F G : Gp} {H : Hp}
theorem LstOf.at {x : D} {ws : List D} {v : V} (h : LstOf G x ws) (rg : RG K (jn G F) H) (r : Rp K (jn G F) H x v) : ∃ p vs, v = .ref p ∧ SqL K H p vs ∧ RpL K (jn G F) H ws vs := by
  cases x with
  | lst us => cases h; obtain ⟨p, vs, e, a, r⟩ := r; exact ⟨p, vs, e, a.sq, r⟩
  | fz us => cases h; obtain ⟨p, vs, e, a, r⟩ := r; exact ⟨p, vs, e, a.sq, r⟩
  | ref a => obtain ⟨vs, hv, rv⟩ := rg a _ (jn_some h); exact ⟨a, vs, r, .inl (.inl hv), rv⟩
  | _ => exact False.elim h
theorem SeqOf.at {x : D} {ws : List D} {v : V} (h : SeqOf G x ws) (rg : RG K (jn G F) H) (r : Rp K (jn G F) H x v) : ∃ p vs, v = .ref p ∧ (SqL K H p vs ∨ SqT K H p vs) ∧ RpL K (jn G F) H ws vs := by
  cases x with
  | lst us => cases h; obtain ⟨p, vs, e, a, r⟩ := r; exact ⟨p, vs, e, .inl a.sq, r⟩
  | fz us => cases h; obtain ⟨p, vs, e, a, r⟩ := r; exact ⟨p, vs, e, .inl a.sq, r⟩
  | tup us => cases h; obtain ⟨p, vs, e, a, r⟩ := r; exact ⟨p, vs, e, .inr a.sq, r⟩
  | ref a => obtain ⟨vs, hv, rv⟩ := rg a _ (jn_some h); exact ⟨a, vs, r, .inl (.inl (.inl hv)), rv⟩
  | _ => exact False.elim h
/-- a list object that + and * take -/
def HdOf (G : Gp) (x : D) (ws : List D) : Prop :=
  match x with
  | .lst us => ws = us
  | .ref a => G a = some (.lst ws)
  | _ => False
theorem HdOf.at {x : D} {ws : List D} {v : V} (h : HdOf G x ws) (rg : RG K (jn G F) H) (r : Rp K (jn G F) H x v) : ∃ p vs, v = .ref p ∧ H p = some (.lst vs) ∧ RpL K (jn G F) H ws vs := by
  cases x with
  | lst us => cases h; obtain ⟨p, vs, e, a, r⟩ := r; exact ⟨p, vs, e, a.2, r⟩
  | ref a => obtain ⟨vs, hv, rv⟩ := rg a _ (jn_some h); exact ⟨a, vs, r, hv, rv⟩
  | _ => exact False.elim h
end

/-! ### operators -/
def mAdd (own : Bool) : M2 := fun x y G q => match x, y with
  | .int i, .int j => q (.int (i + j)) G
  | .int i, .bl k => q (.int (i + b2i k)) G
  | .str a, .str b => a.length + b.length ≤ sizeLine ∧ q (.str (a ++ b)) G
  | .tup xs, .tup ys => xs.length + ys.length ≤ sizeLine ∧ q (.tup (xs ++ ys)) G
  | x, y => ∃ xs ys, HdOf G x xs ∧ HdOf G y ys ∧ xs.length + ys.length ≤ sizeLine ∧ newL own (xs ++ ys) G q
def mSub : M2 := fun x y G q => match x, y with
  | .int i, .int j => q (.int (i - j)) G
  | _, _ => False
def mMul (own : Bool) : M2 := fun x y G q => match x, y with
  | .int i, .int j => (CMul i j ∨ CMulW i j) ∧ q (.int (i * j)) G
  | .str a, .int k => PySem.MulOk a k ∧ q (.str (Txt.mul a k)) G
  | .tup xs, .int k => (xs ≠ [] ∧ 2 ≤ k ∧ k ≤ 1000 ∧ xs.length ≤ 1000) ∧ q (.tup (List.replicate k.toNat xs).flatten) G
  | x, .int k => ∃ xs, HdOf G x xs ∧ (-(2 ^ 63) ≤ k ∧ k < 2 ^ 63 ∧ xs.length * k.toNat ≤ sizeLine) ∧ newL own (List.replicate k.toNat xs).flatten G q
  | _, _ => False
def mMod : M2 := fun x y G q => match x, y with
  | .int i, .int j => 0 < j ∧ q (.int (i % j)) G
  | _, _ => False
def mFdv : M2 := fun x y G q => match x, y with
  | .int i, .int j => CDivW i j ∧ q (.int (i / j)) G
  | _, _ => False
def mPow : M2 := fun x y G q => match x, y with
  | .int i, .int j => CPow i j ∧ q (.int (i ^ j.toNat)) G
  | _, _ => False
section
variable {X : Cx}
theorem OpM.int {f : Value → Value → Sem Value} {C : Int → Int → Prop} {g : Int → Int → Int} (ho : OpR X f (rI C fun i j => .int (g i j))) {i j : Int} {pins : List (Addr × Obj)} {s : Shared} {σ : St} {H : Hp} {G F : Gp} {xv yv : V} {v u : Value} {q : MK}
    (I : Inv X pins σ H s) (rx : RelV xv v) (ry : RelV yv u) (dj : Dj G F) (rg : RG X.K (jn G F) H) (px : xv = .int i) (py : yv = .int j) (hc : C i j) (h : q (.int (g i j)) G) : wpAny (model X.prog X.w) X.A (f v u) (EP X pins σ (Po X.K F G H q)) X.xe s :=
  ho pins s σ H xv yv v u _ I rx ry ⟨i, j, px, py, hc, Po.here (w := .int _) dj rg rfl h⟩
theorem OpM.int0 {f : Value → Value → Sem Value} {g : Int → Int → Int} (ho : OpR X f (rI0 fun i j => .int (g i j))) {i j : Int} {pins : List (Addr × Obj)} {s : Shared} {σ : St} {H : Hp} {G F : Gp} {xv yv : V} {v u : Value} {q : MK}
    (I : Inv X pins σ H s) (rx : RelV xv v) (ry : RelV yv u) (dj : Dj G F) (rg : RG X.K (jn G F) H) (px : xv = .int i) (py : yv = .int j) (h : q (.int (g i j)) G) : wpAny (model X.prog X.w) X.A (f v u) (EP X pins σ (Po X.K F G H q)) X.xe s :=
  ho pins s σ H xv yv v u _ I rx ry ⟨i, j, px, py, Po.here (w := .int _) dj rg rfl h⟩
theorem o_add {own : Bool} : OpM X (binaryOp .Add) (mAdd own) := by
  intro pins s σ H G F x y xv yv v u q I rx ry dj rg px py h
  have lists : (∃ xs ys, HdOf G x xs ∧ HdOf G y ys ∧ xs.length + ys.length ≤ sizeLine ∧ newL own (xs ++ ys) G q) → wpAny (model X.prog X.w) X.A (binaryOp .Add v u) (EP X pins σ (Po X.K F G H q)) X.xe s := by
    rintro ⟨xs, ys, hx, hy, hz, h⟩
    obtain ⟨l, vs, rfl, hl, rl⟩ := hx.at rg px
    obtain ⟨b, zs, rfl, hb, rb⟩ := hy.at rg py
    exact op_cat pins s σ H _ _ v u _ I rx ry ⟨l, b, vs, zs, rfl, rfl, hl, hb, by rw [rl.length, rb.length]; exact hz, fun p hp => new_lst dj rg hp (rl.append rb) h⟩
  cases x with
  | int i =>
    cases y with
    | int j => exact OpM.int0 op_add I rx ry dj rg px py h
    | bl k => exact op_add_ib pins s σ H xv yv v u _ I rx ry ⟨i, k, px, py, Po.here (w := .int _) dj rg rfl h⟩
    | _ => obtain ⟨xs, ys, hx, _⟩ := h; exact False.elim hx
  | str a =>
    cases y with
    | str b => exact op_add_str pins s σ H xv yv v u _ I rx ry ⟨a, b, px, py, h.1, Po.here (w := .str _) dj rg rfl h.2⟩
    | _ => obtain ⟨xs, ys, hx, _⟩ := h; exact False.elim hx
  | tup xs =>
    cases y with
    | tup ys =>
      obtain ⟨l, vs, rfl, hl, rl⟩ := id px
      obtain ⟨b, zs, rfl, hb, rb⟩ := id py
      refine op_catA pins s σ H _ _ v u _ I rx ry ⟨l, b, vs, zs, rfl, rfl, hl.sq, hb.sq, by rw [rl.length, rb.length]; exact h.1, fun e => ?_, fun _ e => ?_, fun _ _ p hp => new_tup dj rg hp (rl.append rb) h.2⟩
      · have : xs = [] := List.length_eq_zero_iff.mp (by rw [← rl.length, e]; rfl)
        subst this
        exact Po.here dj rg py h.2
      · have : ys = [] := List.length_eq_zero_iff.mp (by rw [← rb.length, e]; rfl)
        subst this
        have h2 : q (.tup (xs ++ [])) G := h.2
        rw [List.append_nil] at h2
        exact Po.here dj rg px h2
    | _ => obtain ⟨xs, ys, hx, _⟩ := h; exact False.elim hx
  | lst xs => cases y <;> exact lists h
  | ref a => cases y <;> exact lists h
  | non => cases y <;> (obtain ⟨xs, ys, hx, _⟩ := h; exact False.elim hx)
  | bl _ => cases y <;> (obtain ⟨xs, ys, hx, _⟩ := h; exact False.elim hx)
  | ty _ => cases y <;> (obtain ⟨xs, ys, hx, _⟩ := h; exact False.elim hx)
  | fz _ => cases y <;> (obtain ⟨xs, ys, hx, _⟩ := h; exact False.elim hx)
theorem o_sub : OpM X (binaryOp .Sub) mSub := by
  intro pins s σ H G F x y xv yv v u q I rx ry dj rg px py h
  cases x <;> cases y <;> first | exact False.elim h | exact OpM.int0 op_sub I rx ry dj rg px py h
theorem o_mod : OpM X (binaryOp .Mod) mMod := by
  intro pins s σ H G F x y xv yv v u q I rx ry dj rg px py h
  cases x <;> cases y <;> first | exact False.elim h | exact OpM.int op_mod I rx ry dj rg px py h.1 h.2
theorem o_fdv : OpM X (binaryOp .FloorDiv) mFdv := by
  intro pins s σ H G F x y xv yv v u q I rx ry dj rg px py h
  cases x <;> cases y <;> first | exact False.elim h | exact OpM.int op_fdivW I rx ry dj rg px py h.1 h.2
theorem o_pow : OpM X (binaryOp .Pow) mPow := by
  intro pins s σ H G F x y xv yv v u q I rx ry dj rg px py h
  cases x <;> cases y <;> first | exact False.elim h | exact OpM.int op_pow I rx ry dj rg px py h.1 h.2
theorem o_mul {own : Bool} : OpM X (binaryOp .Mult) (mMul own) := by
  intro pins s σ H G F x y xv yv v u q I rx ry dj rg px py h
  have lists : ∀ k : Int, yv = .int k → (∃ xs, HdOf G x xs ∧ (-(2 ^ 63) ≤ k ∧ k < 2 ^ 63 ∧ xs.length * k.toNat ≤ sizeLine) ∧ newL own (List.replicate k.toNat xs).flatten G q) → wpAny (model X.prog X.w) X.A (binaryOp .Mult v u) (EP X pins σ (Po X.K F G H q)) X.xe s := by
    rintro k ek ⟨xs, hx, ⟨h1, h2, h3⟩, h⟩
    obtain ⟨l, vs, rfl, hl, rl⟩ := hx.at rg px
    exact op_rep pins s σ H _ _ v u _ I rx ry ⟨l, k, vs, rfl, ek, hl, h1, h2, by rw [rl.length]; exact h3, fun p hp => new_lst dj rg hp (rl.rep _) h⟩
  cases x with
  | int i =>
    cases y with
    | int j =>
      obtain ⟨hc | hc, h⟩ := h
      · exact OpM.int op_mul I rx ry dj rg px py hc h
      · exact OpM.int op_mulW I rx ry dj rg px py hc h
    | _ => exact False.elim h
  | str a =>
    cases y with
    | int k =>
      cases (show xv = .str a from px)
      cases (show yv = .int k from py)
      obtain ⟨t, rfl⟩ := rx
      obtain ⟨t', rfl⟩ := ry
      exact PySem.SB.mul h.1 fun t' k' => ⟨.str _, H, I.tok _, ⟨_, rfl⟩, Po.here (w := .str _) dj rg rfl h.2⟩
    | _ => exact False.elim h
  | tup xs =>
    cases y with
    | int k =>
      obtain ⟨l, vs, rfl, hl, rl⟩ := id px
      obtain ⟨⟨h1, h2, h3, h4⟩, h⟩ := h
      exact op_repT pins s σ H _ _ v u _ I rx ry ⟨l, k, vs, rfl, py, hl.sq, fun e => h1 (List.length_eq_zero_iff.mp (by rw [← rl.length, e]; rfl)), h2, h3, by rw [rl.length]; exact h4, fun p hp => new_tup dj rg hp (rl.rep _) h⟩
    | _ => exact False.elim h
  | lst xs => cases y <;> first | exact False.elim h | exact lists _ py h
  | ref a => cases y <;> first | exact False.elim h | exact lists _ py h
  | non => cases y <;> first | exact False.elim h | (obtain ⟨xs, hx, _⟩ := h; exact False.elim hx)
  | bl _ => cases y <;> first | exact False.elim h | (obtain ⟨xs, hx, _⟩ := h; exact False.elim hx)
  | ty _ => cases y <;> first | exact False.elim h | (obtain ⟨xs, hx, _⟩ := h; exact False.elim hx)
  | fz _ => cases y <;> first | exact False.elim h | (obtain ⟨xs, hx, _⟩ := h; exact False.elim hx)
end

/-! ### comparisons -/
def eqS (x y : D) : Option Bool := match x, y with
  | .int i, .int j => some (decide (i = j))
  | .str a, .str b => some (decide (a = b))
  | .bl a, .bl b => some (decide (a = b))
  | .non, .non => some true
  | .non, .int _ | .int _, .non | .non, .bl _ | .bl _, .non | .non, .str _ | .str _, .non | .int _, .str _ | .str _, .int _ | .bl _, .str _ | .str _, .bl _ => some false
  | _, _ => none
def cmpEq (f : Bool → Bool) : M2 := fun x y G q => match eqS x y with
  | some b => q (.bl (f b)) G
  | none => ∃ x' y', Sees G x x' ∧ Sees G y y' ∧ okD x' = true ∧ okD y' = true ∧ dep x' ≤ 64 ∧ dep y' ≤ 64 ∧ q (.bl (f (eqD x' y'))) G
def mEq : M2 := cmpEq id
def mNe : M2 := cmpEq not
def mLt : M2 := fun x y G q => match x, y with
  | .int i, .int j => q (.bl (decide (i < j))) G
  | _, _ => False
def mLe : M2 := fun x y G q => match x, y with
  | .int i, .int j => q (.bl (decide (i ≤ j))) G
  | _, _ => False
def mGt : M2 := fun x y G q => match x, y with
  | .int i, .int j => q (.bl (decide (j < i))) G
  | _, _ => False
def mGe : M2 := fun x y G q => match x, y with
  | .int i, .int j => q (.bl (decide (j ≤ i))) G
  | _, _ => False
section
variable {X : Cx}
theorem OpM.bl0 {f : Value → Value → Sem Value} {g : Int → Int → Bool} (ho : OpR X f (rI0 fun i j => .bl (g i j))) {i j : Int} {pins : List (Addr × Obj)} {s : Shared} {σ : St} {H : Hp} {G F : Gp} {xv yv : V} {v u : Value} {q : MK}
    (I : Inv X pins σ H s) (rx : RelV xv v) (ry : RelV yv u) (dj : Dj G F) (rg : RG X.K (jn G F) H) (px : xv = .int i) (py : yv = .int j) (h : q (.bl (g i j)) G) : wpAny (model X.prog X.w) X.A (f v u) (EP X pins σ (Po X.K F G H q)) X.xe s :=
  ho pins s σ H xv yv v u _ I rx ry ⟨i, j, px, py, Po.here (w := .bl _) dj rg rfl h⟩
theorem o_lt : OpM X (compareOp .Lt) mLt := by
  intro pins s σ H G F x y xv yv v u q I rx ry dj rg px py h
  cases x <;> cases y <;> first | exact False.elim h | exact OpM.bl0 op_lt I rx ry dj rg px py h
theorem o_le : OpM X (compareOp .LtE) mLe := by
  intro pins s σ H G F x y xv yv v u q I rx ry dj rg px py h
  cases x <;> cases y <;> first | exact False.elim h | exact OpM.bl0 op_le I rx ry dj rg px py h
theorem o_gt : OpM X (compareOp .Gt) mGt := by
  intro pins s σ H G F x y xv yv v u q I rx ry dj rg px py h
  cases x <;> cases y <;> first | exact False.elim h | exact OpM.bl0 op_gt I rx ry dj rg px py h
theorem o_ge : OpM X (compareOp .GtE) mGe := by
  intro pins s σ H G F x y xv yv v u q I rx ry dj rg px py h
  cases x <;> cases y <;> first | exact False.elim h | exact OpM.bl0 op_ge I rx ry dj rg px py h
theorem eqS_ok {K : PySem.W.Frag} {G : Gp} {H : Hp} {x y : D} {xv yv : V} {b : Bool} (px : Rp K G H x xv) (py : Rp K G H y yv) (h : eqS x y = some b) : scal xv yv = true ∧ decide (xv = yv) = b := by
  unfold eqS at h
  split at h <;> (try cases h) <;> (cases px; cases py; refine ⟨rfl, ?_⟩) <;> first | rfl | (simp; done) | (rw [Bool.eq_iff_iff]; simp)
theorem o_eq (hu : X.A.units + 64 < cLine) : OpM X (compareOp .Eq) mEq := by
  intro pins s σ H G F x y xv yv v u q I rx ry dj rg px py h
  unfold mEq cmpEq at h
  cases e : eqS x y with
  | some b =>
    rw [e] at h
    obtain ⟨h1, h2⟩ := eqS_ok px py e
    exact op_eq pins s σ H xv yv v u _ I rx ry ⟨h1, by rw [h2]; exact Po.here (w := .bl b) dj rg rfl h⟩
  | none =>
    rw [e] at h
    obtain ⟨x', y', sx, sy, ox, oy, dx, dy, h⟩ := h
    refine op_eqD hu pins s σ H xv yv v u _ I rx ry ⟨pd x', pd y', sx.dp rg px ox, sy.dp rg py oy, shaped_pd ox dx, shaped_pd oy dy, ?_⟩
    rw [eqv_pd x' y' ox oy]
    exact Po.here (w := .bl _) dj rg rfl h
theorem o_ne (hu : X.A.units + 64 < cLine) : OpM X (compareOp .NotEq) mNe := by
  intro pins s σ H G F x y xv yv v u q I rx ry dj rg px py h
  unfold mNe cmpEq at h
  cases e : eqS x y with
  | some b =>
    rw [e] at h
    obtain ⟨h1, h2⟩ := eqS_ok px py e
    exact op_ne pins s σ H xv yv v u _ I rx ry ⟨h1, by rw [h2]; exact Po.here (w := .bl (!b)) dj rg rfl h⟩
  | none =>
    rw [e] at h
    obtain ⟨x', y', sx, sy, ox, oy, dx, dy, h⟩ := h
    refine op_neD hu pins s σ H xv yv v u _ I rx ry ⟨pd x', pd y', sx.dp rg px ox, sy.dp rg py oy, shaped_pd ox dx, shaped_pd oy dy, ?_⟩
    rw [eqv_pd x' y' ox oy]
    exact Po.here (w := .bl _) dj rg rfl h
/-- is None -/
def isN : D → Bool
  | .non => true
  | _ => false
def mIsN : M2 := fun x y G q => match y with
  | .non => q (.bl (isN x)) G
  | _ => False
def mNotN : M2 := fun x y G q => match y with
  | .non => q (.bl (!isN x)) G
  | _ => False
theorem isN_of {K : PySem.W.Frag} {G : Gp} {H : Hp} {x : D} {xv : V} (px : Rp K G H x xv) : decide (xv = .non) = isN x := by
  cases x with
  | tup xs => obtain ⟨p, vs, rfl, _⟩ := px; rfl
  | lst xs => obtain ⟨p, vs, rfl, _⟩ := px; rfl
  | fz xs => obtain ⟨p, vs, rfl, _⟩ := px; rfl
  | _ => cases px; rfl
theorem o_isN : OpM X (compareOp .Is) mIsN := by
  intro pins s σ H G F x y xv yv v u q I rx ry dj rg px py h
  cases y with
  | non => exact op_isN pins s σ H xv yv v u _ I rx ry ⟨py, by rw [isN_of px]; exact Po.here (w := .bl _) dj rg rfl h⟩
  | _ => exact False.elim h
theorem o_notN : OpM X (compareOp .IsNot) mNotN := by
  intro pins s σ H G F x y xv yv v u q I rx ry dj rg px py h
  cases y with
  | non => exact op_notN pins s σ H xv yv v u _ I rx ry ⟨py, by rw [isN_of px]; exact Po.here (w := .bl _) dj rg rfl h⟩
  | _ => exact False.elim h
end
end ML

set_option maxRecDepth 100000
namespace ML
open PySem PySem.Spec L2
open PyProof.Rows hiding St

/-! ### truth -/
def mTru (x : D) (G : Gp) (q : Bool → Gp → Prop) : Prop := match x with
  | .non => q false G
  | .bl b => q b G
  | .int i => q (i != 0) G
  | .str y => y.length ≤ sizeLine ∧ q ((y.length : Int) != 0) G
  | .tup xs => q (!xs.isEmpty) G
  | .lst xs => q (!xs.isEmpty) G
  | .fz xs => q (!xs.isEmpty) G
  | .ref a => (∃ xs, G a = some (.lst xs) ∧ q (!xs.isEmpty) G) ∨ ∃ kvs, G a = some (.dic kvs) ∧ q (!kvs.isEmpty) G
  | .ty _ => False
theorem RpL.empty {K : PySem.W.Frag} {G : Gp} {H : Hp} {ws : List D} {vs : List V} (h : RpL K G H ws vs) : vs.isEmpty = ws.isEmpty := by
  have := h.length
  cases ws with
  | nil => cases vs with
    | nil => rfl
    | cons _ _ => simp at this
  | cons _ _ => cases vs with
    | nil => simp at this
    | cons _ _ => rfl
theorem RKv.keys {K : PySem.W.Frag} {G : Gp} {H : Hp} : ∀ {ws : List (Key × D)} {vs : List (Key × V)}, RKv K G H ws vs → vs.map (·.1) = ws.map (·.1)
  | [], _, h => by cases (show _ = _ from h); rfl
  | (n, w) :: r, _, ⟨v, t, e, _, h⟩ => by subst e; simp [RKv.keys h]
theorem mTru.at {K : PySem.W.Frag} {F G : Gp} {H : Hp} {x : D} {v : V} {q : Bool → Gp → Prop} (h : mTru x G q) (rg : RG K (jn G F) H) (r : Rp K (jn G F) H x v) : ∃ k, TruV K v H k ∧ q k G := by
  cases x with
  | non => cases r; exact ⟨false, rfl, h⟩
  | bl b => cases r; exact ⟨b, rfl, h⟩
  | int i => cases r; exact ⟨_, rfl, h⟩
  | str y => cases r; exact ⟨_, ⟨h.1, rfl⟩, h.2⟩
  | tup xs => obtain ⟨p, vs, rfl, a, rl⟩ := r; exact ⟨_, .inr (.inl ⟨vs, a.sq, rfl⟩), by rw [rl.empty]; exact h⟩
  | lst xs => obtain ⟨p, vs, rfl, a, rl⟩ := r; exact ⟨_, .inl ⟨vs, a.sq, rfl⟩, by rw [rl.empty]; exact h⟩
  | fz xs => obtain ⟨p, vs, rfl, a, rl⟩ := r; exact ⟨_, .inl ⟨vs, a.sq, rfl⟩, by rw [rl.empty]; exact h⟩
  | ref a =>
    cases (show v = .ref a from r)
    rcases h with ⟨xs, g, h⟩ | ⟨kvs, g, h⟩
    · obtain ⟨vs, hv, rl⟩ := rg a _ (jn_some g)
      exact ⟨_, .inl ⟨vs, .inl (.inl hv), rfl⟩, by rw [rl.empty]; exact h⟩
    · obtain ⟨vs, hv, rl⟩ := rg a _ (jn_some g)
      refine ⟨_, .inr (.inr ⟨vs, hv, rfl⟩), ?_⟩
      have e := congrArg List.isEmpty rl.keys
      rw [List.isEmpty_map, List.isEmpty_map] at e
      rw [e]; exact h
  | ty _ => exact False.elim h
def mAndT (t u : TTm) : TTm := fun τ G q => t τ G fun c G1 => match c with | true => u τ G1 q | false => q false G1
def mOrT (t u : TTm) : TTm := fun τ G q => t τ G fun c G1 => match c with | true => q true G1 | false => u τ G1 q
def mNotT (t : TTm) : TTm := fun τ G q => t τ G fun c G1 => q (!c) G1
def mTruT (Ta : TEm) : TTm := fun τ G q => Ta τ G fun x G1 => mTru x G1 q
def mOr (Ta Tb : TEm) : TEm := fun τ G q => Ta τ G fun x G1 => mTru x G1 fun k G2 => match k with | true => q x G2 | false => Tb τ G2 q
def mAnd (Ta Tb : TEm) : TEm := fun τ G q => Ta τ G fun x G1 => mTru x G1 fun k G2 => match k with | true => Tb τ G2 q | false => q x G2
def mNot (Ta : TEm) : TEm := fun τ G q => Ta τ G fun x G1 => mTru x G1 fun k G2 => q (.bl (!k)) G2
def mIf (t : TTm) (Ta Tb : TEm) : TEm := fun τ G q => t τ G fun c G1 => match c with | true => Ta τ G1 q | false => Tb τ G1 q
/-- the truth of a value changes nothing -/
theorem mTru.mono {x : D} {G : Gp} {q q' : Bool → Gp → Prop} (h : mTru x G q) (k : ∀ b, q b G → q' b G) : mTru x G q' := by
  cases x with
  | str y => exact ⟨h.1, k _ h.2⟩
  | ref a => rcases h with ⟨xs, g, h⟩ | ⟨kvs, g, h⟩; (exact .inl ⟨xs, g, k _ h⟩); exact .inr ⟨kvs, g, k _ h⟩
  | ty _ => exact h
  | _ => exact k _ h
end ML
namespace ML
open PySem PySem.Spec L2
open PyProof.Rows hiding St
section
variable {B : Bs} {X : Cx} {a b c e : Expr} {es rest : List Expr} {pos : Pos} {Ta Tb Tc Te : TEm} {Tl : TAm} {t u : TTm}
theorem mt_truth (ha : ME B X a Ta) (he : ∀ whole, isTrue a X.env whole = (do let v ← whole; standAt a.pos; holding [v] (truthy v)) := by intro _; rfl) : MT B X a (mTruT Ta) :=
  mt_of (pt_truth ha he) fun σ H τ G F q dj rs rg h => ⟨τ, G, F, _, dj, rs, rg, h, fun v H1 ⟨w, G1, d1, k1, rg1, r1, h1⟩ => by
    obtain ⟨k, tv, h2⟩ := h1.at rg1 r1
    exact ⟨k, tv, G1, d1, k1, rg1, h2⟩⟩
def MW (B : Bs) (X : Cx) (e : Expr) (T : TTm) : Prop := PW X e (liftT B X.K T)
theorem mw_of {e : Expr} {t : TT} {T : TTm} (h : PW X e t) (k : ∀ σ H τ G F q, Dj G F → RS X.K (jn G F) H τ σ → RB B X.K (jn G F) H → T τ G q → t σ H (PoT X.K F G H q)) : MW B X e T :=
  ⟨fun wh pins s σ H Q I ⟨τ, G, F, q, dj, rs, rg, ht, c⟩ => thn (h.run wh pins s σ H _ I (k σ H τ G F q dj rs rg ht)) fun u s' z => TP.to z c⟩
theorem MW.mt (h : MW B X e t) : MT B X e t := PW.pt h
theorem mw_and1 (ha : MT B X a t) : MW B X (.BoolOp .And [a] pos) t := pw_and1 ha
theorem mw_or1 (ha : MT B X a t) : MW B X (.BoolOp .Or [a] pos) t := pw_or1 ha
theorem mw_and (ha : MT B X a t) (hb : MW B X (.BoolOp .And (b :: rest) pos) u) : MW B X (.BoolOp .And (a :: b :: rest) pos) (mAndT t u) :=
  mw_of (pw_and ha hb) fun σ H τ G F q dj rs rg h => ⟨τ, G, F, _, dj, rs, rg, h, fun c H1 ⟨G1, d1, k1, rg1, h1⟩ => by
    cases c with
    | true =>
      rw [if_pos rfl]
      exact ⟨τ, G1, F, _, d1, rs.kp k1, rg.go k1 rg1, h1, fun v H2 z => z.behind k1⟩
    | false =>
      rw [if_neg Bool.false_ne_true]
      exact ⟨G1, d1, k1, rg1, h1⟩⟩
theorem mw_or (ha : MT B X a t) (hb : MW B X (.BoolOp .Or (b :: rest) pos) u) : MW B X (.BoolOp .Or (a :: b :: rest) pos) (mOrT t u) :=
  mw_of (pw_or ha hb) fun σ H τ G F q dj rs rg h => ⟨τ, G, F, _, dj, rs, rg, h, fun c H1 ⟨G1, d1, k1, rg1, h1⟩ => by
    cases c with
    | false =>
      rw [if_neg Bool.false_ne_true]
      exact ⟨τ, G1, F, _, d1, rs.kp k1, rg.go k1 rg1, h1, fun v H2 z => z.behind k1⟩
    | true =>
      rw [if_pos rfl]
      exact ⟨G1, d1, k1, rg1, h1⟩⟩
theorem mt_not (ha : MT B X a t) : MT B X (.UnaryOp .Not a pos) (mNotT t) :=
  mt_of (pt_not ha) fun σ H τ G F q dj rs rg h => ⟨τ, G, F, _, dj, rs, rg, h, fun c H1 z => z⟩
theorem m_orE (ha : ME B X a Ta) (hb : ME B X (.BoolOp .Or (b :: rest) pos) Tb) : ME B X (.BoolOp .Or (a :: b :: rest) pos) (mOr Ta Tb) :=
  me_of (pe_orT ha hb) fun σ H τ G F q dj rs rg h => ⟨τ, G, F, _, dj, rs, rg, h, fun v H1 ⟨w, G1, d1, k1, rg1, r1, h1⟩ => by
    obtain ⟨k, tv, h2⟩ := h1.at rg1 r1
    refine ⟨k, tv, ?_⟩
    cases k with
    | true =>
      rw [if_pos rfl]
      exact ⟨w, G1, d1, k1, rg1, r1, h2⟩
    | false =>
      rw [if_neg Bool.false_ne_true]
      exact ⟨τ, G1, F, _, d1, rs.kp k1, rg.go k1 rg1, h2, fun v H2 z => z.behind k1⟩⟩
theorem m_andE (ha : ME B X a Ta) (hb : ME B X (.BoolOp .And (b :: rest) pos) Tb) : ME B X (.BoolOp .And (a :: b :: rest) pos) (mAnd Ta Tb) :=
  me_of (pe_andT ha hb) fun σ H τ G F q dj rs rg h => ⟨τ, G, F, _, dj, rs, rg, h, fun v H1 ⟨w, G1, d1, k1, rg1, r1, h1⟩ => by
    obtain ⟨k, tv, h2⟩ := h1.at rg1 r1
    refine ⟨k, tv, ?_⟩
    cases k with
    | false =>
      rw [if_neg Bool.false_ne_true]
      exact ⟨w, G1, d1, k1, rg1, r1, h2⟩
    | true =>
      rw [if_pos rfl]
      exact ⟨τ, G1, F, _, d1, rs.kp k1, rg.go k1 rg1, h2, fun v H2 z => z.behind k1⟩⟩
theorem m_one {op} (h : ME B X a Ta) : ME B X (.BoolOp op [a] pos) Ta := pe_one h
theorem m_not (ha : ME B X a Ta) : ME B X (.UnaryOp .Not a pos) (mNot Ta) :=
  me_of (pe_notT ha) fun σ H τ G F q dj rs rg h => ⟨τ, G, F, _, dj, rs, rg, h, fun v H1 ⟨w, G1, d1, k1, rg1, r1, h1⟩ => by
    obtain ⟨k, tv, h2⟩ := h1.at rg1 r1
    exact ⟨k, tv, .bl (!k), G1, d1, k1, rg1, rfl, h2⟩⟩
theorem m_ifE (hc : MT B X c t) (ha : ME B X a Ta) (hb : ME B X b Tb) : ME B X (.IfExp c a b pos) (mIf t Ta Tb) :=
  me_of (pe_ifExp hc ha hb) fun σ H τ G F q dj rs rg h => ⟨τ, G, F, _, dj, rs, rg, h, fun c H1 ⟨G1, d1, k1, rg1, h1⟩ => by
    cases c with
    | true =>
      rw [if_pos rfl]
      exact ⟨τ, G1, F, _, d1, rs.kp k1, rg.go k1 rg1, h1, fun v H2 z => z.behind k1⟩
    | false =>
      rw [if_neg Bool.false_ne_true]
      exact ⟨τ, G1, F, _, d1, rs.kp k1, rg.go k1 rg1, h1, fun v H2 z => z.behind k1⟩⟩
/-- -e -/
def mNeg (Ta : TEm) : TEm := fun τ G q => Ta τ G fun x G1 => match x with | .int i => q (.int (-i)) G1 | _ => False
theorem m_neg (ha : ME B X a Ta) : ME B X (.UnaryOp .USub a pos) (mNeg Ta) :=
  me_of (pe_un un_neg ha) fun σ H τ G F q dj rs rg h => ⟨τ, G, F, _, dj, rs, rg, h, fun v H1 ⟨w, G1, d1, k1, rg1, r1, h1⟩ => by
    cases w with
    | int i => exact ⟨i, r1, .int (-i), G1, d1, k1, rg1, rfl, h1⟩
    | _ => exact False.elim h1⟩

/-! ### chains -/
def mChain (m m' : M2) (Ta Tb Tc : TEm) : TEm := fun τ G q => Ta τ G fun x G1 => Tb τ G1 fun y G2 => m x y G2 fun z G3 => match z with
  | .bl k => (match k with | true => Tc τ G3 fun w G4 => m' y w G4 q | false => q (.bl false) G3)
  | _ => False
theorem chain_lift {op op' : CmpOp} {m m' : M2} {σ : St} {H : Hp} {τ : Sl} {G F : Gp} {q : MK} (dj : Dj G F) (rs : RS X.K (jn G F) H τ σ) (rg : RB B X.K (jn G F) H) (h : mChain m m' Ta Tb Tc τ G q) :
    tChain (ROp X m) (ROp X m') (liftE B X.K Ta) (liftE B X.K Tb) (liftE B X.K Tc) σ H (Po X.K F G H q) :=
  ⟨τ, G, F, _, dj, rs, rg, h, fun v H1 ⟨x, G1, d1, k1, rg1, r1, h1⟩ => ⟨τ, G1, F, _, d1, rs.kp k1, rg.go k1 rg1, h1, fun v2 H2 ⟨y, G2, d2, k2, rg2, r2, h2⟩ =>
    ⟨G2, F, x, y, _, d2, rg2, r1.kp k2, r2, h2, fun z H3 ⟨zw, G3, d3, k3, rg3, r3, h3⟩ => by
      cases zw with
      | bl k =>
        refine ⟨k, r3, ?_⟩
        cases k with
        | true =>
          rw [if_pos rfl]
          refine ⟨τ, G3, F, _, d3, rs.kp ((k1.trans k2).trans k3), rg.go ((k1.trans k2).trans k3) rg3, h3, fun v4 H4 ⟨w, G4, d4, k4, rg4, r4, h4⟩ => ?_⟩
          exact ⟨G4, F, y, w, q, d4, rg4, (r2.kp k3).kp k4, r4, h4, fun v5 H5 z5 => z5.behind (((k1.trans k2).trans k3).trans k4)⟩
        | false =>
          rw [if_neg Bool.false_ne_true]
          exact ⟨.bl false, G3, d3, (k1.trans k2).trans k3, rg3, rfl, h3⟩
      | _ => exact False.elim h3⟩⟩⟩
theorem m_chain {op op' : CmpOp} {m m' : M2} (ho : OpM X (compareOp op) m) (ho' : OpM X (compareOp op') m') (ha : ME B X a Ta) (hb : ME B X b Tb) (hc : ME B X c Tc)
    (hm : lastMarks [op, op'] [b, c] = false := by with_unfolding_all rfl) : ME B X (.Compare a [op, op'] [b, c] pos) (mChain m m' Ta Tb Tc) :=
  me_of (pe_chain (opR_of ho) (opR_of ho') ha hb hc hm) fun σ H τ G F q dj rs rg h => chain_lift (op := op) (op' := op') dj rs rg h
theorem mt_chain {op op' : CmpOp} {m m' : M2} (ho : OpM X (compareOp op) m) (ho' : OpM X (compareOp op') m') (ha : ME B X a Ta) (hb : ME B X b Tb) (hc : ME B X c Tc)
    (hm : lastMarks [op, op'] [b, c] = false := by with_unfolding_all rfl) : MT B X (.Compare a [op, op'] [b, c] pos) (mTest (mChain m m' Ta Tb Tc)) :=
  mt_of (pt_chain (opR_of ho) (opR_of ho') ha hb hc hm) fun σ H τ G F q dj rs rg h => by
    have h := chain_lift (op := op) (op' := op') dj rs rg h
    refine ⟨τ, G, F, _, dj, rs, rg, ‹mTest (mChain m m' Ta Tb Tc) τ G q›, fun v H1 ⟨x, G1, d1, k1, rg1, r1, h1⟩ => ⟨τ, G1, F, _, d1, rs.kp k1, rg.go k1 rg1, h1, fun v2 H2 ⟨y, G2, d2, k2, rg2, r2, h2⟩ =>
    ⟨G2, F, x, y, _, d2, rg2, r1.kp k2, r2, h2, fun z H3 ⟨zw, G3, d3, k3, rg3, r3, h3⟩ => by
      cases zw with
      | bl k =>
        refine ⟨k, r3, ?_⟩
        cases k with
        | true =>
          rw [if_pos rfl]
          refine ⟨τ, G3, F, _, d3, rs.kp ((k1.trans k2).trans k3), rg.go ((k1.trans k2).trans k3) rg3, h3, fun v4 H4 ⟨w, G4, d4, k4, rg4, r4, h4⟩ => ?_⟩
          refine ⟨G4, F, y, w, _, d4, rg4, (r2.kp k3).kp k4, r4, h4, fun v5 H5 z5 => ?_⟩
          obtain ⟨k, e, z⟩ := PoT.of_bl z5
          exact ⟨k, e, z.behind (((k1.trans k2).trans k3).trans k4)⟩
        | false =>
          rw [if_neg Bool.false_ne_true]
          exact ⟨false, rfl, G3, d3, (k1.trans k2).trans k3, rg3, h3⟩
      | _ => exact False.elim h3⟩⟩⟩

/-! ### displays, arguments -/
def mNil : TAm := fun _ G q => q [] G
def mCons (Ta : TEm) (Tl : TAm) : TAm := fun τ G q => Ta τ G fun x G1 => Tl τ G1 fun xs G2 => q (x :: xs) G2
theorem ma_nil : MA B X [] mNil := ma_of pa_nil fun σ H τ G F q dj rs rg h => ⟨[], G, dj, Kp.refl _ _, rg.rg, rfl, h⟩
theorem ma_cons (ha : ME B X e Te) (hr : MA B X es Tl) (hs : starEach (e :: es) X.env = (false, eval e X.env) :: starEach es X.env := by rfl) : MA B X (e :: es) (mCons Te Tl) :=
  ma_of (pa_cons ha hr hs) fun σ H τ G F q dj rs rg h => ⟨τ, G, F, _, dj, rs, rg, h, fun v H1 ⟨x, G1, d1, k1, rg1, r1, h1⟩ => ⟨τ, G1, F, _, d1, rs.kp k1, rg.go k1 rg1, h1, fun v2 H2 ⟨ys, G2, d2, k2, rg2, r2, h2⟩ =>
    ⟨x :: ys, G2, d2, k1.trans k2, rg2, .cons (r1.kp k2) r2, h2⟩⟩⟩
def mTup (Tl : TAm) : TEm := fun τ G q => Tl τ G fun xs G1 => xs.length ≤ sizeLine ∧ q (.tup xs) G1
def mLst (own : Bool) (Tl : TAm) : TEm := fun τ G q => Tl τ G fun xs G1 => xs.length ≤ sizeLine ∧ newL own xs G1 q
theorem m_tup {x1} (h : MA B X es Tl) : ME B X (.Tuple es x1 pos) (mTup Tl) :=
  me_of (pe_tup h) fun σ H τ G F q dj rs rg h => ⟨τ, G, F, _, dj, rs, rg, h, fun vs H1 ⟨ws, G1, d1, k1, rg1, r1, h1⟩ => ⟨by rw [r1.length]; exact h1.1, fun p hp => (new_tup d1 rg1 hp r1 h1.2).behind k1⟩⟩
theorem m_lst (own : Bool) (h : MA B X es Tl) : ME B X (.List es pos) (mLst own Tl) :=
  me_of (pe_lst h) fun σ H τ G F q dj rs rg h => ⟨τ, G, F, _, dj, rs, rg, h, fun vs H1 ⟨ws, G1, d1, k1, rg1, r1, h1⟩ => ⟨by rw [r1.length]; exact h1.1, fun p hp => (new_lst d1 rg1 hp r1 h1.2).behind k1⟩⟩

/-! ### subscripts -/
def mIx : M2 := fun x y G q => match x, y with
  | .tup xs, .int i => ∃ w, atI xs i = some w ∧ q w G
  | .str z, .int i => z.length ≤ sizeLine ∧ ∃ c, atI z.cps.toList i = some c ∧ q (.str ⟨#[c]⟩) G
  | x, .int i => ∃ xs w, LstOf G x xs ∧ atI xs i = some w ∧ q w G
  | _, _ => False
theorem RpL.atI {K : PySem.W.Frag} {G : Gp} {H : Hp} {ws : List D} {vs : List V} (r : RpL K G H ws vs) {i : Int} {w : D} (h : L2.atI ws i = some w) : ∃ v, L2.atI vs i = some v ∧ Rp K G H w v := by
  unfold L2.atI at h ⊢
  rw [r.length]
  cases e : ixN ws.length i with
  | none => rw [e] at h; cases h
  | some j =>
    rw [e] at h
    obtain ⟨v, h1, h2⟩ := r.get h
    exact ⟨v, h1, h2⟩
theorem ix_ok {K : PySem.W.Frag} {F G : Gp} {H : Hp} {x y : D} {xv yv : V} {q : MK} (dj : Dj G F) (rg : RG K (jn G F) H) (px : Rp K (jn G F) H x xv) (py : Rp K (jn G F) H y yv) (h : mIx x y G q) : rIx K xv yv H (Po K F G H q) := by
  have lists : ∀ i : Int, yv = .int i → (∃ xs w, LstOf G x xs ∧ atI xs i = some w ∧ q w G) → rIx K xv yv H (Po K F G H q) := by
    rintro i ei ⟨xs, w, hx, ha, h⟩
    obtain ⟨p, vs, rfl, hs, rl⟩ := hx.at rg px
    obtain ⟨v, hv, rv⟩ := rl.atI ha
    exact .inl ⟨p, vs, i, v, rfl, ei, hs, hv, Po.here dj rg rv h⟩
  cases x with
  | tup xs =>
    cases y with
    | int i =>
      obtain ⟨w, ha, h⟩ := h
      obtain ⟨p, vs, rfl, hs, rl⟩ := px
      obtain ⟨v, hv, rv⟩ := rl.atI ha
      exact .inr (.inl ⟨p, vs, i, v, rfl, py, hs.sq, hv, Po.here dj rg rv h⟩)
    | _ => exact False.elim h
  | str z =>
    cases y with
    | int i =>
      obtain ⟨hz, c, ha, h⟩ := h
      exact .inr (.inr ⟨z, i, c, px, py, hz, ha, Po.here (w := .str _) dj rg rfl h⟩)
    | _ => exact False.elim h
  | lst xs => cases y <;> first | exact False.elim h | exact lists _ py h
  | fz xs => cases y <;> first | exact False.elim h | exact lists _ py h
  | ref xs => cases y <;> first | exact False.elim h | exact lists _ py h
  | _ => cases y <;> first | exact False.elim h | (obtain ⟨_, _, hx, _⟩ := h; exact False.elim hx)
theorem m_ix (ha : ME B X a Ta) (hb : ME B X b Tb) (hs : PlainIx b := by exact fun _ _ => rfl) : ME B X (.Subscript a b pos) (mOp mIx Ta Tb) :=
  me_of (pe_ix ix_seq ha hb hs) fun σ H τ G F q dj rs rg h => ⟨τ, G, F, _, dj, rs, rg, h, fun v H1 ⟨x, G1, d1, k1, rg1, r1, h1⟩ => ⟨τ, G1, F, _, d1, rs.kp k1, rg.go k1 rg1, h1, fun v2 H2 ⟨y, G2, d2, k2, rg2, r2, h2⟩ => by
    have z := ix_ok d2 rg2 (r1.kp k2) r2 h2
    rcases z with ⟨p, xs, i, w, e1, e2, e3, e4, z⟩ | ⟨p, xs, i, w, e1, e2, e3, e4, z⟩ | ⟨zz, i, c, e1, e2, e3, e4, z⟩
    · exact .inl ⟨p, xs, i, w, e1, e2, e3, e4, z.behind (k1.trans k2)⟩
    · exact .inr (.inl ⟨p, xs, i, w, e1, e2, e3, e4, z.behind (k1.trans k2)⟩)
    · exact .inr (.inr ⟨zz, i, c, e1, e2, e3, e4, z.behind (k1.trans k2)⟩)⟩⟩
/-- slices -/
abbrev TOm := Sl → Gp → (Option Int → Gp → Prop) → Prop
def PoO (K : PySem.W.Frag) (F G : Gp) (H : Hp) (q : Option Int → Gp → Prop) (o : Option Int) (H' : Hp) : Prop := ∃ G', Dj G' F ∧ Kp (jn G F) H (jn G' F) H' ∧ RG K (jn G' F) H' ∧ q o G'
def liftO (B : Bs) (K : PySem.W.Frag) (T : TOm) : TO := fun σ H Q => ∃ τ G F q, Dj G F ∧ RS K (jn G F) H τ σ ∧ RB B K (jn G F) H ∧ T τ G q ∧ ∀ o H', PoO K F G H q o H' → Q o H'
def MO' (B : Bs) (X : Cx) (e : Option Expr) (T : TOm) : Prop := PO X e (liftO B X.K T)
def mNoPart : TOm := fun _ G q => q none G
def mPart (Ta : TEm) : TOm := fun τ G q => Ta τ G fun x G1 => match x with | .int i => q (some i) G1 | _ => False
theorem po_mono {e : Option Expr} {t t' : TO} (h : PO X e t) (k : ∀ σ H Q, t' σ H Q → t σ H Q) : PO X e t' := ⟨fun pins s σ H Q I q => h.run pins s σ H Q I (k _ _ _ q)⟩
theorem mo_none : MO' B X none mNoPart := po_mono po_none fun σ H Q ⟨τ, G, F, q, dj, rs, rg, h, c⟩ => c none H ⟨G, dj, Kp.refl _ _, rg.rg, h⟩
theorem mo_some (h : ME B X e Te) : MO' B X (some e) (mPart Te) := po_mono (po_some h) fun σ H Q ⟨τ, G, F, q, dj, rs, rg, h, c⟩ => ⟨τ, G, F, _, dj, rs, rg, h, fun v H1 ⟨x, G1, d1, k1, rg1, r1, h1⟩ => by
    cases x with
    | int i => exact ⟨i, r1, c _ _ ⟨G1, d1, k1, rg1, h1⟩⟩
    | _ => exact False.elim h1⟩
def cutD (xs : List D) (lo hi : Option Int) : List D := (xs.drop (HT.sIx xs.length 0 lo)).take (HT.sIx xs.length xs.length hi - HT.sIx xs.length 0 lo)
def mCut (own : Bool) (x : D) (lo hi : Option Int) (G : Gp) (q : MK) : Prop := match x with
  | .str z => z.length ≤ sizeLine ∧ q (.str (cutS z lo hi)) G
  | .tup xs => q (.tup (cutD xs lo hi)) G
  | x => ∃ xs, LstOf G x xs ∧ newL own (cutD xs lo hi) G q
def mSl (own : Bool) (Ta : TEm) (Tl Th : TOm) : TEm := fun τ G q => Ta τ G fun x G1 => Tl τ G1 fun lo G2 => Th τ G2 fun hi G3 => mCut own x lo hi G3 q
theorem RpL.cut {K : PySem.W.Frag} {G : Gp} {H : Hp} {ws : List D} {vs : List V} (r : RpL K G H ws vs) (lo hi : Option Int) : RpL K G H (cutD ws lo hi) (cutV vs lo hi) := by
  unfold cutD cutV
  rw [r.length]
  exact (r.drop _).take _
def rSlAny (K : PySem.W.Frag) : V → Option Int → Option Int → Hp → VK → Prop := fun x lo hi H Q => rSlL K x lo hi H Q ∨ rSlA K x lo hi H Q ∨ rSlS x lo hi H Q
theorem sl_any : SlR X (rSlAny X.K) := sl_list.or (sl_tupA.or sl_str)
theorem cut_ok {K : PySem.W.Frag} {F G : Gp} {H : Hp} {x : D} {xv : V} {lo hi : Option Int} {own : Bool} {q : MK} {Q : VK} (dj : Dj G F) (rg : RG K (jn G F) H) (px : Rp K (jn G F) H x xv) (h : mCut own x lo hi G q) (k : ∀ v H', Po K F G H q v H' → Q v H') : rSlAny K xv lo hi H Q := by
  have lists : (∃ xs, LstOf G x xs ∧ newL own (cutD xs lo hi) G q) → rSlAny K xv lo hi H Q := by
    rintro ⟨xs, hx, h⟩
    obtain ⟨p, vs, rfl, hs, rl⟩ := hx.at rg px
    exact .inl ⟨p, vs, rfl, hs, fun r hr => k _ _ (new_lst dj rg hr (rl.cut lo hi) h)⟩
  cases x with
  | str z => exact .inr (.inr ⟨z, px, h.1, k _ _ (Po.here (w := .str _) dj rg rfl h.2)⟩)
  | tup xs =>
    obtain ⟨p, vs, rfl, hs, rl⟩ := id px
    refine .inr (.inl ⟨p, vs, rfl, hs.sq, fun e => k _ _ (Po.here (w := .tup (cutD xs lo hi)) dj rg ?_ h), fun _ r hr => k _ _ (new_tup dj rg hr (rl.cut lo hi) h)⟩)
    have e1 : cutD xs lo hi = xs := by
      rw [rl.length] at e
      unfold cutD
      rw [e.1, e.2, Nat.sub_zero, List.drop_zero, List.take_length]
    rw [e1]
    exact px
  | lst xs => exact lists h
  | fz xs => exact lists h
  | ref xs => exact lists h
  | _ => obtain ⟨_, hx, _⟩ := h; exact False.elim hx
theorem m_sl {lo hi : Option Expr} {Tl Th : TOm} {p2 : Pos} (own : Bool) (he : ME B X e Te) (hl : MO' B X lo Tl) (hu : MO' B X hi Th) : ME B X (.Subscript e (.Slice lo hi none p2) pos) (mSl own Te Tl Th) :=
  me_of (pe_slice sl_any he hl hu) fun σ H τ G F q dj rs rg h => ⟨τ, G, F, _, dj, rs, rg, h, fun v H1 ⟨x, G1, d1, k1, rg1, r1, h1⟩ => ⟨τ, G1, F, _, d1, rs.kp k1, rg.go k1 rg1, h1, fun o H2 ⟨G2, d2, k2, rg2, h2⟩ =>
    ⟨τ, G2, F, _, d2, (rs.kp k1).kp k2, (rg.go k1 rg1).go k2 rg2, h2, fun o2 H3 ⟨G3, d3, k3, rg3, h3⟩ => cut_ok d3 rg3 ((r1.kp k2).kp k3) h3 fun v H' z => z.behind ((k1.trans k2).trans k3)⟩⟩⟩
end
end ML

set_option maxRecDepth 100000
namespace ML
open PySem PySem.Spec L2
open PyProof.Rows hiding St

/-! ### statements -/
structure Em where
  nx : Sl → Gp → Prop
  rt : MK
  bk : Sl → Gp → Prop := fun _ _ => False
  ct : Sl → Gp → Prop := fun _ _ => False
abbrev TSm := Em → Sl → Gp → Prop
def PoS (K : PySem.W.Frag) (F G : Gp) (H : Hp) (q : Sl → Gp → Prop) (σ' : St) (H' : Hp) : Prop := ∃ τ' G', Dj G' F ∧ Kp (jn G F) H (jn G' F) H' ∧ RG K (jn G' F) H' ∧ RS K (jn G' F) H' τ' σ' ∧ q τ' G'
def liftD (K : PySem.W.Frag) (F G : Gp) (H : Hp) (d : Em) : Ends := { nx := PoS K F G H d.nx, rt := Po K F G H d.rt, bk := PoS K F G H d.bk, ct := PoS K F G H d.ct }
structure EndsLe (D D' : Ends) : Prop where
  nx : ∀ σ H, D.nx σ H → D'.nx σ H
  rt : ∀ v H, D.rt v H → D'.rt v H
  bk : ∀ σ H, D.bk σ H → D'.bk σ H
  ct : ∀ σ H, D.ct σ H → D'.ct σ H
theorem EndsLe.refl (D : Ends) : EndsLe D D := ⟨fun _ _ h => h, fun _ _ h => h, fun _ _ h => h, fun _ _ h => h⟩
def liftS (B : Bs) (K : PySem.W.Frag) (T : TSm) : TS := fun D σ H => ∃ τ G F d, Dj G F ∧ RS K (jn G F) H τ σ ∧ RB B K (jn G F) H ∧ T d τ G ∧ EndsLe (liftD K F G H d) D
def MS (B : Bs) (X : Cx) (st : Stmt) (T : TSm) : Prop := PS X st (liftS B X.K T)
def MSs (B : Bs) (X : Cx) (sts : List Stmt) (T : TSm) : Prop := PSs X sts (liftS B X.K T)
theorem SP.to {X : Cx} {pins : List (Addr × Obj)} {D D' : Ends} {f : Flow} {s : Shared} (h : SP X pins D f s) (k : EndsLe D D') : SP X pins D' f s := by
  cases f with
  | next => obtain ⟨σ, H, I, q⟩ := h; exact ⟨σ, H, I, k.nx _ _ q⟩
  | brk => obtain ⟨σ, H, I, q⟩ := h; exact ⟨σ, H, I, k.bk _ _ q⟩
  | cont => obtain ⟨σ, H, I, q⟩ := h; exact ⟨σ, H, I, k.ct _ _ q⟩
  | ret u => obtain ⟨v, σ, H, I, r, q⟩ := h; exact ⟨v, σ, H, I, r, k.rt _ _ q⟩
theorem PoS.behind {K : PySem.W.Frag} {F G G1 : Gp} {H H1 : Hp} {q : Sl → Gp → Prop} {σ : St} {H' : Hp} (k : Kp (jn G F) H (jn G1 F) H1) (h : PoS K F G1 H1 q σ H') : PoS K F G H q σ H' :=
  let ⟨t, G', d, k', a, b, c⟩ := h; ⟨t, G', d, k.trans k', a, b, c⟩
theorem liftD.behind {K : PySem.W.Frag} {F G G1 : Gp} {H H1 : Hp} {d : Em} {D : Ends} (k : Kp (jn G F) H (jn G1 F) H1) (h : EndsLe (liftD K F G H d) D) : EndsLe (liftD K F G1 H1 d) D :=
  ⟨fun _ _ z => h.nx _ _ (z.behind k), fun _ _ z => h.rt _ _ (z.behind k), fun _ _ z => h.bk _ _ (z.behind k), fun _ _ z => h.ct _ _ (z.behind k)⟩
section
variable {B : Bs} {X : Cx} {st : Stmt} {rest sts : List Stmt} {T U : TSm} {e : Expr} {Te : TEm} {pos : Pos}
theorem ms_of {t : TS} (h : PS X st t) (k : ∀ σ H τ G F d, Dj G F → RS X.K (jn G F) H τ σ → RB B X.K (jn G F) H → T d τ G → t (liftD X.K F G H d) σ H) : MS B X st T :=
  ⟨fun pins s σ H D I ⟨τ, G, F, d, dj, rs, rg, ht, c⟩ => thn (h.run pins s σ H _ I (k σ H τ G F d dj rs rg ht)) fun u s' z => SP.to z c⟩
theorem mss_of {t : TS} (h : PSs X sts t) (k : ∀ σ H τ G F d, Dj G F → RS X.K (jn G F) H τ σ → RB B X.K (jn G F) H → T d τ G → t (liftD X.K F G H d) σ H) : MSs B X sts T :=
  ⟨fun pins s σ H D I ⟨τ, G, F, d, dj, rs, rg, ht, c⟩ => thn (h.run pins s σ H _ I (k σ H τ G F d dj rs rg ht)) fun u s' z => SP.to z c⟩
theorem PoS.here {K : PySem.W.Frag} {F G : Gp} {H : Hp} {q : Sl → Gp → Prop} {σ : St} {τ : Sl} (dj : Dj G F) (rg : RG K (jn G F) H) (rs : RS K (jn G F) H τ σ) (h : q τ G) : PoS K F G H q σ H := ⟨τ, G, dj, Kp.refl _ _, rg, rs, h⟩
def mNext : TSm := fun d τ G => d.nx τ G
def mSeq (T U : TSm) : TSm := fun d τ G => T { d with nx := U d } τ G
theorem mss_nil : MSs B X [] mNext := mss_of pss_nil fun σ H τ G F d dj rs rg h => PoS.here dj rg.rg rs h
theorem mss_cons (h1 : MS B X st T) (h2 : MSs B X rest U) : MSs B X (st :: rest) (mSeq T U) :=
  mss_of (pss_cons h1 h2) fun σ H τ G F d dj rs rg h => ⟨τ, G, F, { d with nx := U d }, dj, rs, rg, h, ⟨fun σ' H' ⟨τ', G', d', k, rg', rs', hu⟩ => ⟨τ', G', F, d, d', rs', rg.go k rg', hu, liftD.behind k (EndsLe.refl _)⟩, fun _ _ z => z, fun _ _ z => z, fun _ _ z => z⟩⟩
theorem mss_one (h1 : MS B X st T) : MSs B X [st] T := pss_one h1
theorem ms_pass : MS B X (.Pass pos) mNext := ms_of ps_pass fun σ H τ G F d dj rs rg h => PoS.here dj rg.rg rs h
def mBrk : TSm := fun d τ G => d.bk τ G
def mCnt : TSm := fun d τ G => d.ct τ G
theorem ms_brk : MS B X (.Break pos) mBrk := ms_of ps_break fun σ H τ G F d dj rs rg h => PoS.here dj rg.rg rs h
theorem ms_cnt : MS B X (.Continue pos) mCnt := ms_of ps_continue fun σ H τ G F d dj rs rg h => PoS.here dj rg.rg rs h
def mDrop (Te : TEm) : TSm := fun d τ G => Te τ G fun _ G1 => d.nx τ G1
theorem ms_expr (he : ME B X e Te) (hs : swapsWith e none pos.line X.env = pure false := by rfl) : MS B X (.Expr e pos) (mDrop Te) :=
  ms_of (ps_expr he hs) fun σ H τ G F d dj rs rg h => ⟨τ, G, F, _, dj, rs, rg, h, fun v H1 ⟨w, G1, d1, k1, rg1, r1, h1⟩ => ⟨τ, G1, d1, k1, rg1, rs.kp k1, h1⟩⟩
def mRet (Te : TEm) : TSm := fun d τ G => Te τ G d.rt
theorem ms_ret (he : ME B X e Te) : MS B X (.Return (some e) pos) (mRet Te) :=
  ms_of (ps_ret he) fun σ H τ G F d dj rs rg h => ⟨τ, G, F, _, dj, rs, rg, h, fun v H1 z => z⟩
def mRetN : TSm := fun d _ G => d.rt .non G
theorem ms_retN : MS B X (.Return none pos) mRetN := ms_of ps_retN fun σ H τ G F d dj rs rg h => Po.here (w := .non) dj rg.rg rfl h
def mIfS (c : TTm) (T U : TSm) : TSm := fun d τ G => c τ G fun b G1 => match b with | true => T d τ G1 | false => U d τ G1
theorem ms_if {c : Expr} {a b : List Stmt} {tc : TTm} (hc : MT B X c tc) (ha : MSs B X a T) (hb : MSs B X b U) : MS B X (.If c a b pos) (mIfS tc T U) :=
  ms_of (ps_if hc ha hb) fun σ H τ G F d dj rs rg h => ⟨τ, G, F, _, dj, rs, rg, h, fun c H1 ⟨G1, d1, k1, rg1, h1⟩ => by
    cases c with
    | true =>
      rw [if_pos rfl]
      exact ⟨τ, G1, F, d, d1, rs.kp k1, rg.go k1 rg1, h1, liftD.behind k1 (EndsLe.refl _)⟩
    | false =>
      rw [if_neg Bool.false_ne_true]
      exact ⟨τ, G1, F, d, d1, rs.kp k1, rg.go k1 rg1, h1, liftD.behind k1 (EndsLe.refl _)⟩⟩
def mNever : TSm := fun _ _ _ => False
theorem ms_never : MS B X st mNever := ms_of ps_never fun σ H τ G F d dj rs rg h => h

/-! ### targets -/
inductive GT where
  | nm (i : Nat)
  | tp (gs : List GT)
mutual
def GT.t (K : PySem.W.Frag) : GT → TG
  | .nm i => gName i
  | .tp gs => gTup K gs.length (GT.ts K gs)
def GT.ts (K : PySem.W.Frag) : List GT → TGs
  | [] => gNil
  | g :: gs => gCons (GT.t K g) (GT.ts K gs)
end
mutual
def GT.run : GT → D → Gp → Sl → (Sl → Gp → Prop) → Prop
  | .nm i, w, G, τ, q => q (τ.set i (some w)) G
  | .tp gs, .tup ws, G, τ, q => GT.runs gs ws G τ q
  | .tp _, _, _, _, _ => False
def GT.runs : List GT → List D → Gp → Sl → (Sl → Gp → Prop) → Prop
  | [], [], G, τ, q => q τ G
  | g :: gs, w :: ws, G, τ, q => g.run w G τ fun τ' G' => GT.runs gs ws G' τ' q
  | _, _, _, _, _ => False
end
mutual
def GT.slots : GT → List Nat
  | .nm i => [i]
  | .tp gs => GT.slotss gs
def GT.slotss : List GT → List Nat
  | [] => []
  | g :: gs => g.slots ++ GT.slotss gs
end
theorem wipe_set {σ : St} {i : Nat} {v : Option V} : ∀ {vs : List Nat}, i ∈ vs → wipe (σ.set i v) vs = wipe σ vs
  | [], h => nomatch h
  | w :: vs, h => by
    show (wipe (σ.set i v) vs).set w none = (wipe σ vs).set w none
    by_cases hw : i ∈ vs
    · rw [wipe_set hw]
    · have e : w = i := by
        rcases List.mem_cons.mp h with e | e
        · exact e.symm
        · exact absurd e hw
      subst e
      have key : ∀ {vs : List Nat}, w ∉ vs → wipe (σ.set w v) vs = (wipe σ vs).set w v := by
        intro vs
        induction vs with
        | nil => intro _; rfl
        | cons u us ih =>
          intro hm
          show (wipe (σ.set w v) us).set u none = ((wipe σ us).set u none).set w v
          rw [ih fun z => hm (List.mem_cons_of_mem _ z), List.set_comm]
          rintro rfl
          exact hm List.mem_cons_self
      rw [key hw, List.set_set]
section
variable {K : PySem.W.Frag}
mutual
theorem GT.tmono : ∀ (g : GT) (v : V) (σ : St) (H : Hp) (q q' : St → Hp → Prop), g.t K v σ H q → (∀ σ' H', q σ' H' → q' σ' H') → g.t K v σ H q'
  | .nm i, _, _, _, _, _, h, k => k _ _ h
  | .tp gs, v, σ, H, q, q', ⟨a, xs, e, s, l, h⟩, k => ⟨a, xs, e, s, l, GT.tsmono gs xs σ H q q' h k⟩
theorem GT.tsmono : ∀ (gs : List GT) (vs : List V) (σ : St) (H : Hp) (q q' : St → Hp → Prop), GT.ts K gs vs σ H q → (∀ σ' H', q σ' H' → q' σ' H') → GT.ts K gs vs σ H q'
  | [], _, _, _, _, _, ⟨e, h⟩, k => ⟨e, k _ _ h⟩
  | g :: gs, vs, σ, H, q, q', ⟨v, r, e, h⟩, k => ⟨v, r, e, GT.tmono g v σ H _ _ h fun σ' H' z => GT.tsmono gs r σ' H' q q' z k⟩
end
end
section
variable {K : PySem.W.Frag} {R G : Gp} {H : Hp}
mutual
theorem GT.ok : ∀ (g : GT) (w : D) (v : V) (τ : Sl) (σ : St) (q : Sl → Gp → Prop), RG K R H → Rp K R H w v → RS K R H τ σ → g.run w G τ q →
    g.t K v σ H fun σ' H' => H' = H ∧ (∃ τ', RS K R H τ' σ' ∧ q τ' G) ∧ ∀ vs, (∀ i ∈ g.slots, i ∈ vs) → wipe σ' vs = wipe σ vs
  | .nm i, w, v, τ, σ, q, rg, rp, rs, h => ⟨rfl, ⟨_, rs.set rp i, h⟩, fun vs hv => wipe_set (hv i (by simp [GT.slots]))⟩
  | .tp gs, .tup ws, v, τ, σ, q, rg, rp, rs, h => by
    obtain ⟨p, vs, rfl, ht, rl⟩ := rp
    have h : GT.runs gs ws G τ q := by simpa [GT.run] using h
    have hl := GT.runs_len gs ws τ q h
    exact ⟨p, vs, rfl, ht.sq, by rw [rl.length, hl], by simpa [GT.slots] using GT.oks gs ws vs τ σ q rg rl rs h⟩
  | .tp _, .non, _, _, _, _, _, _, _, h => by simp [GT.run] at h
  | .tp _, .bl _, _, _, _, _, _, _, _, h => by simp [GT.run] at h
  | .tp _, .int _, _, _, _, _, _, _, _, h => by simp [GT.run] at h
  | .tp _, .str _, _, _, _, _, _, _, _, h => by simp [GT.run] at h
  | .tp _, .ref _, _, _, _, _, _, _, _, h => by simp [GT.run] at h
  | .tp _, .ty _, _, _, _, _, _, _, _, h => by simp [GT.run] at h
  | .tp _, .lst _, _, _, _, _, _, _, _, h => by simp [GT.run] at h
  | .tp _, .fz _, _, _, _, _, _, _, _, h => by simp [GT.run] at h
theorem GT.runs_len : ∀ (gs : List GT) (ws : List D) (τ : Sl) (q : Sl → Gp → Prop), GT.runs gs ws G τ q → ws.length = gs.length
  | [], [], _, _, _ => rfl
  | [], _ :: _, _, _, h => by simp [GT.runs] at h
  | _ :: _, [], _, _, h => by simp [GT.runs] at h
  | g :: gs, w :: ws, τ, q, h => by
    have h : g.run w G τ fun τ' G' => GT.runs gs ws G' τ' q := by simpa [GT.runs] using h
    obtain ⟨τ', h'⟩ := GT.run_some g w τ _ h
    rw [List.length_cons, List.length_cons, GT.runs_len gs ws τ' q h']
theorem GT.run_some : ∀ (g : GT) (w : D) (τ : Sl) (q : Sl → Gp → Prop), g.run w G τ q → ∃ τ', q τ' G
  | .nm i, w, τ, q, h => ⟨_, h⟩
  | .tp gs, .tup ws, τ, q, h => GT.runs_some gs ws τ q (by simpa [GT.run] using h)
  | .tp _, .non, _, _, h => by simp [GT.run] at h
  | .tp _, .bl _, _, _, h => by simp [GT.run] at h
  | .tp _, .int _, _, _, h => by simp [GT.run] at h
  | .tp _, .str _, _, _, h => by simp [GT.run] at h
  | .tp _, .ref _, _, _, h => by simp [GT.run] at h
  | .tp _, .ty _, _, _, h => by simp [GT.run] at h
  | .tp _, .lst _, _, _, h => by simp [GT.run] at h
  | .tp _, .fz _, _, _, h => by simp [GT.run] at h
theorem GT.runs_some : ∀ (gs : List GT) (ws : List D) (τ : Sl) (q : Sl → Gp → Prop), GT.runs gs ws G τ q → ∃ τ', q τ' G
  | [], [], τ, _, h => ⟨τ, by simpa [GT.runs] using h⟩
  | [], _ :: _, _, _, h => by simp [GT.runs] at h
  | _ :: _, [], _, _, h => by simp [GT.runs] at h
  | g :: gs, w :: ws, τ, q, h => by
    have h : g.run w G τ fun τ' G' => GT.runs gs ws G' τ' q := by simpa [GT.runs] using h
    obtain ⟨τ', h'⟩ := GT.run_some g w τ _ h
    exact GT.runs_some gs ws τ' q h'
theorem GT.oks : ∀ (gs : List GT) (ws : List D) (vs : List V) (τ : Sl) (σ : St) (q : Sl → Gp → Prop), RG K R H → RpL K R H ws vs → RS K R H τ σ → GT.runs gs ws G τ q →
    GT.ts K gs vs σ H fun σ' H' => H' = H ∧ (∃ τ', RS K R H τ' σ' ∧ q τ' G) ∧ ∀ vs, (∀ i ∈ GT.slotss gs, i ∈ vs) → wipe σ' vs = wipe σ vs
  | [], [], vs, τ, σ, q, rg, rl, rs, h => ⟨rl, rfl, ⟨τ, rs, by simpa [GT.runs] using h⟩, fun _ _ => rfl⟩
  | [], _ :: _, _, _, _, _, _, _, _, h => by simp [GT.runs] at h
  | _ :: _, [], _, _, _, _, _, _, _, h => by simp [GT.runs] at h
  | g :: gs, w :: ws, vs, τ, σ, q, rg, ⟨v, t, e, rp, rl⟩, rs, h => by
    have h : g.run w G τ fun τ' G' => GT.runs gs ws G' τ' q := by simpa [GT.runs] using h
    refine ⟨v, t, e, ?_⟩
    refine GT.tmono g _ _ _ _ _ (GT.ok g w v τ σ _ rg rp rs h) ?_
    intro σ' H' ⟨e', ⟨τ', rs', h'⟩, hw⟩
    rw [e']
    refine GT.tsmono gs _ _ _ _ _ (GT.oks gs ws t τ' σ' q rg rl rs' h') ?_
    intro σ2 H2 ⟨e2, hq, hw2⟩
    exact ⟨e2, hq, fun vs hv => (hw2 vs fun i hi => hv i (by simp [GT.slotss, hi])).trans (hw vs fun i hi => hv i (by simp [GT.slotss, hi]))⟩
end
end
def MG (X : Cx) (tg : Expr) (g : GT) : Prop := PG X tg (g.t X.K)
def MGs (X : Cx) (tgs : List Expr) (gs : List GT) : Prop := PGs X tgs (GT.ts X.K gs)
theorem mg_name {i : Nat} {x : Str} (hN : X.N.Nodup) (hi : X.N[i]? = some x) (hx : Loc X.env.scope x) (hf : X.fn x = true ∨ X.env.scope.names.lookup x = some .local := by first | exact .inl rfl | exact .inr rfl | assumption) : MG X (.Name x pos) (.nm i) :=
  pg_name hN hi hx hf
theorem mgs_nil : MGs X [] [] := pgs_nil
theorem mgs_cons {e : Expr} {es : List Expr} {g : GT} {gs : List GT} (h1 : MG X e g) (h2 : MGs X es gs)
    (hs : (assignEach (e :: es) X.env).map (·.2) = assign e X.env :: (assignEach es X.env).map (·.2) := by rfl) : MGs X (e :: es) (g :: gs) := pgs_cons h1 h2 hs
theorem mg_tup {es : List Expr} {k : Nat} {gs : List GT} (hc : X.calm = true) (h : MGs X es gs)
    (hn : (assignEach es X.env).length = gs.length := by rfl) (hst : (assignEach es X.env).findIdx? (·.1) = none := by rfl) : MG X (.Tuple es k pos) (.tp gs) := pg_tup hc h hn hst
/-- target = value -/
def mAsg (Te : TEm) (g : GT) : TSm := fun d τ G => Te τ G fun x G1 => g.run x G1 τ d.nx
theorem asg_lift {σ : St} {H : Hp} {τ : Sl} {G F : Gp} {d : Em} {g : GT} (dj : Dj G F) (rs : RS X.K (jn G F) H τ σ) (rg : RB B X.K (jn G F) H) (h : mAsg Te g d τ G) : tAsg (liftE B X.K Te) (g.t X.K) (liftD X.K F G H d) σ H :=
  ⟨τ, G, F, _, dj, rs, rg, h, fun v H1 ⟨w, G1, d1, k1, rg1, r1, h1⟩ => GT.tmono g v σ H1 _ _ (GT.ok g w v τ σ _ rg1 r1 (rs.kp k1) h1) (by
    rintro σ' H' ⟨rfl, ⟨τ', rs', hq⟩, _⟩
    exact ⟨τ', G1, d1, k1, rg1, rs', hq⟩)⟩
theorem ms_asg {tg : Expr} {g : GT} (he : ME B X e Te) (hg : MG X tg g) (hs : swapsWithSole [tg] e pos.line X.env = pure false := by rfl) (hw : swappedStores [tg] e X.env = pure none := by rfl)
    (h1 : (assignEach [tg] X.env).map (·.2) = [assign tg X.env] := by rfl) : MS B X (.Assign [tg] e pos) (mAsg Te g) :=
  ms_of (ps_asg he hg hs hw h1) fun σ H τ G F d dj rs rg h => asg_lift dj rs rg h
/-- name = value -/
theorem ms_set {i : Nat} {x : Str} {pos' : Pos} (hN : X.N.Nodup) (hi : X.N[i]? = some x) (hx : Loc X.env.scope x) (he : ME B X e Te) (hs : swapsWith e (some (.Name x pos')) pos.line X.env = pure false := by rfl) (hf : X.fn x = true ∨ X.env.scope.names.lookup x = some .local := by first | exact .inl rfl | exact .inr rfl | assumption) :
    MS B X (.Assign [.Name x pos'] e pos) (mAsg Te (.nm i)) :=
  ms_of (ps_set hN hi hx he hs hf) fun σ H τ G F d dj rs rg h => asg_lift (g := .nm i) dj rs rg h
/-- a, b = x, y -/
def mPar (i j : Nat) (Ta Tb : TEm) : TSm := fun d τ G => Ta τ G fun x G1 => Tb τ G1 fun y G2 => d.nx ((τ.set i (some x)).set j (some y)) G2
theorem ms_par {i j : Nat} {x y : Str} {a b : Expr} {Ta Tb : TEm} {px py pt : Pos} {kt k2 pt2} (hc : X.calm = true) (hN : X.N.Nodup) (hi : X.N[i]? = some x) (hj : X.N[j]? = some y) (hij : i ≠ j)
    (hx : X.env.scope.names.lookup x = some .local) (hy : X.env.scope.names.lookup y = some .local) (ha : ME B X a Ta) (hb : ME B X b Tb)
    (hw : swappedStores [.Tuple [.Name x px, .Name y py] kt pt] (.Tuple [a, b] k2 pt2) X.env = pure (some [x, y]) := by rfl)
    (hs : swapsWithSole [.Tuple [.Name x px, .Name y py] kt pt] (.Tuple [a, b] k2 pt2) pos.line X.env = pure false := by rfl) (h1 : starEach [a, b] X.env = (false, eval a X.env) :: starEach [b] X.env := by rfl) (h2 : starEach [b] X.env = (false, eval b X.env) :: starEach [] X.env := by rfl) :
    MS B X (.Assign [.Tuple [.Name x px, .Name y py] kt pt] (.Tuple [a, b] k2 pt2) pos) (mPar i j Ta Tb) :=
  ms_of (ps_par hc hN hi hj hij hx hy (ma_cons ha (ma_cons hb ma_nil h2) h1) hw hs) fun σ H τ G F d dj rs rg h => ⟨τ, G, F, (fun xs G2 => ∃ x y, xs = [x, y] ∧ d.nx ((τ.set i (some x)).set j (some y)) G2), dj, rs, rg, (by
      show Ta τ G _
      have h : Ta τ G fun x G1 => Tb τ G1 fun y G2 => d.nx ((τ.set i (some x)).set j (some y)) G2 := h
      have e : (fun x G1 => Tb τ G1 fun y G2 => d.nx ((τ.set i (some x)).set j (some y)) G2) = (fun x G1 => mCons Tb mNil τ G1 fun xs G2 => ∃ x' y, x :: xs = [x', y] ∧ d.nx ((τ.set i (some x')).set j (some y)) G2) := by
        funext x G1
        show Tb τ G1 _ = Tb τ G1 _
        congr 1
        funext y G2
        apply propext
        constructor
        · intro z; exact ⟨x, y, rfl, z⟩
        · rintro ⟨x', y', e, z⟩
          simp only [List.cons.injEq, and_true] at e
          obtain ⟨rfl, rfl⟩ := e
          exact z
      rw [e] at h
      exact h), fun vs H1 ⟨ws, G1, d1, k1, rg1, r1, x, y, e, h1⟩ => by
      subst e
      obtain ⟨v, t, e1, rx, ⟨v2, t2, e2, ry, e3⟩⟩ := r1
      cases (show t2 = [] from e3)
      subst e1; subst e2
      exact ⟨v, v2, rfl, _, G1, d1, k1, rg1, ((rs.kp k1).set rx i).set ry j, h1⟩⟩
/-- x op= e -/
def mAug (i : Nat) (Te : TEm) (m : M2) : TSm := fun d τ G => ∃ x, τ[i]? = some (some x) ∧ Te τ G fun y G1 => m x y G1 fun z G2 => d.nx (τ.set i (some z)) G2
theorem ms_aug {i : Nat} {x : Str} {op : Operator} {m : M2} {pos' : Pos} (hN : X.N.Nodup) (hi : X.N[i]? = some x) (hx : Loc X.env.scope x) (he : ME B X e Te) (ho : OpM X (inplaceOp op) m) (hf : X.fn x = true ∨ X.env.scope.names.lookup x = some .local := by first | exact .inl rfl | exact .inr rfl | assumption) :
    MS B X (.AugAssign (.Name x pos') op e pos) (mAug i Te m) :=
  ms_of (ps_aug hN hi hx he (opR_of ho : OpR X (inplaceOp op) _) hf) fun σ H τ G F d dj rs rg ⟨x, ex, h⟩ => by
    obtain ⟨v, ev, rv⟩ := rs.2 i x ex
    exact ⟨v, ev, τ, G, F, _, dj, rs, rg, h, fun v2 H2 ⟨y, G2, d2, k2, rg2, r2, h2⟩ => ⟨G2, F, x, y, _, d2, rg2, rv.kp k2, r2, h2, fun z H3 ⟨zw, G3, d3, k3, rg3, r3, h3⟩ => ⟨_, G3, d3, k2.trans k3, rg3, ((rs.kp k2).kp k3).set r3 i, h3⟩⟩⟩
/-- o[i] = e, o a list -/
def mSetI (Te To Ti : TEm) : TSm := fun d τ G => Te τ G fun v G1 => To τ G1 fun o G2 => Ti τ G2 fun i G3 => match o, i with
  | .ref a, .int k => ∃ xs j, G3 a = some (.lst xs) ∧ ixN xs.length k = some j ∧ d.nx τ (put G3 a (.lst (xs.set j v)))
  | _, _ => False
theorem ms_setI {o i : Expr} {To Ti : TEm} {pos' : Pos} (he : ME B X e Te) (ho : ME B X o To) (hi : ME B X i Ti)
    (ha : ∀ v, assign (.Subscript o i pos') X.env v = (do
      let ov ← holding [v] (eval o X.env)
      let iv ← holding [v, ov] (eval i X.env)
      standAt pos'
      holding [v, ov, iv] (setItem ov iv v)
      release [v, ov, iv] []) := by intro _; rfl) (hs : swapsWithSole [.Subscript o i pos'] e pos.line X.env = pure false := by rfl) (hw : swappedStores [.Subscript o i pos'] e X.env = pure none := by rfl)
    (h1 : (assignEach [.Subscript o i pos'] X.env).map (·.2) = [assign (.Subscript o i pos') X.env] := by rfl) : MS B X (.Assign [.Subscript o i pos'] e pos) (mSetI Te To Ti) :=
  ms_of (ps_asg he (pg_sub ho hi set_list ha) hs hw h1) fun σ H τ G F d dj rs rg h => ⟨τ, G, F, _, dj, rs, rg, h, fun v H1 ⟨w, G1, d1, k1, rg1, r1, h1⟩ => ⟨τ, G1, F, _, d1, rs.kp k1, rg.go k1 rg1, h1, fun v2 H2 ⟨wo, G2, d2, k2, rg2, r2, h2⟩ =>
    ⟨τ, G2, F, _, d2, (rs.kp k1).kp k2, (rg.go k1 rg1).go k2 rg2, h2, fun v3 H3 ⟨wi, G3, d3, k3, rg3, r3, h3⟩ => by
      cases wo with
      | ref a =>
        cases wi with
        | int k =>
          obtain ⟨xs, j, g, hj, h4⟩ := h3
          obtain ⟨vs, hv, rl⟩ := rg3 a _ (jn_some g)
          obtain ⟨d4, k4, rg4⟩ := put_step d3 rg3 g (rl.set ((r1.kp k2).kp k3) j)
          exact ⟨a, vs, k, j, r2, r3, hv, by rw [rl.length]; exact hj, τ, _, d4, ((k1.trans k2).trans k3).trans k4, rg4, (((rs.kp k1).kp k2).kp k3).kp k4, h4⟩
        | _ => exact False.elim h3
      | _ => exact False.elim h3⟩⟩⟩

/-! ### while -/
def mWhile (c : TTm) (T : TSm) : TSm := fun d τ G => ∃ W : Nat → Sl → Gp → Prop, (∃ m, W m τ G) ∧ ∀ m τ G, W m τ G →
  c τ G fun b G1 => match b with
    | true => ∃ N : Sl → Gp → Prop, (∀ τ' G', N τ' G' → ∃ m', m' < m ∧ W m' τ' G') ∧ T { d with nx := N, ct := N, bk := d.nx } τ G1
    | false => d.nx τ G1
theorem ms_while {c : Expr} {body : List Stmt} {tc : TTm} (hp : PassesOwn (model X.prog X.w) X.A X.env X.xe) (hc : MT B X c tc) (hb : MSs B X body T) : MS B X (.While c body [] pos) (mWhile tc T) :=
  ms_of (ps_while hp hc hb) fun σ H τ G F d dj rs rg ⟨W, ⟨m0, w0⟩, hW⟩ => by
    refine ⟨fun m σ' H' => ∃ τ' G', Dj G' F ∧ Kp (jn G F) H (jn G' F) H' ∧ RG X.K (jn G' F) H' ∧ RS X.K (jn G' F) H' τ' σ' ∧ W m τ' G', ⟨m0, τ, G, dj, Kp.refl _ _, rg.rg, rs, w0⟩, ?_⟩
    rintro m σ1 H1 ⟨τ1, G1, d1, k1, rg1, rs1, w1⟩
    refine ⟨τ1, G1, F, _, d1, rs1, rg.go k1 rg1, hW m τ1 G1 w1, fun b H2 ⟨G2, d2, k2, rg2, h2⟩ => ?_⟩
    cases b with
    | true =>
      obtain ⟨N, hN, hT⟩ := h2
      rw [if_pos rfl]
      refine ⟨PoS X.K F G H N, fun σ3 H3 ⟨τ3, G3, d3, k3, rg3, rs3, n3⟩ => ?_, τ1, G2, F, _, d2, rs1.kp k2, (rg.go k1 rg1).go k2 rg2, hT, ⟨fun σ3 H3 z => z.behind (k1.trans k2), fun v H3 z => z.behind (k1.trans k2), fun σ3 H3 z => z.behind (k1.trans k2), fun σ3 H3 z => z.behind (k1.trans k2)⟩⟩
      obtain ⟨m', l, w'⟩ := hN τ3 G3 n3
      exact ⟨m', l, τ3, G3, d3, k3, rg3, rs3, w'⟩
    | false =>
      rw [if_neg Bool.false_ne_true]
      exact ⟨τ1, G2, d2, k1.trans k2, rg2, rs1.kp k2, h2⟩

/-! ### what is walked -/
/-- J yields ws while the state is alive -/
structure JM (K : PySem.W.Frag) (J : It) (ws : List D) (alive : Gp → Prop) (R0 : Gp) (H0 : Hp) : Prop where
  mono : ∀ G F, alive G → alive (jn G F)
  at_ : ∀ (i : Nat) (R : Gp) (H : Hp), Kp R0 H0 R H → RG K R H → alive R →
    (∀ w, ws[i]? = some w → J.go i H ∧ ∀ x H', J.yld i H x H' → Kp R H R H' ∧ RG K R H' ∧ Rp K R H' w x) ∧ (ws.length = i → J.stop i H)
abbrev TIm := Sl → Gp → (List D → (Gp → Prop) → Gp → Prop) → Prop
def liftI (B : Bs) (K : PySem.W.Frag) (T : TIm) : TI := fun σ H R => ∃ τ G F r, Dj G F ∧ RS K (jn G F) H τ σ ∧ RB B K (jn G F) H ∧ T τ G r ∧ ∀ J H1 ws alive G1, Dj G1 F → Kp (jn G F) H (jn G1 F) H1 → RG K (jn G1 F) H1 → JM K J ws alive (jn G1 F) H1 → r ws alive G1 → R J H1
def MI (B : Bs) (X : Cx) (tg iter : Expr) (T : TIm) : Prop := PI X tg iter (liftI B X.K T)
theorem pi_mono {tg iter : Expr} {wi wi' : TI} (h : PI X tg iter wi) (k : ∀ σ H R, wi' σ H R → wi σ H R) : PI X tg iter wi' := ⟨fun pins s σ H R I q => h.run pins s σ H R I (k _ _ _ q)⟩
/-- the turns, one after another -/
def mLoop (alive : Gp → Prop) (g : GT) (T : TSm) (d : Em) : List D → Sl → Gp → Prop
  | [], τ, G => alive G ∧ d.nx τ G
  | w :: ws, τ, G => alive G ∧ g.run w G τ (T { d with nx := mLoop alive g T d ws, ct := mLoop alive g T d ws, bk := d.nx })
def mFor (wi : TIm) (g : GT) (T : TSm) : TSm := fun d τ G => wi τ G fun ws alive G1 => mLoop alive g T d ws τ G1
theorem loop_lift {J : It} {ws : List D} {alive : Gp → Prop} {g : GT} {σ : St} {H0 H : Hp} {τ : Sl} {G0 G F : Gp} {d : Em} (dj : Dj G F) (k0 : Kp (jn G0 F) H0 (jn G F) H) (rs : RS X.K (jn G F) H τ σ) (rb : RB B X.K (jn G0 F) H0) (rg : RG X.K (jn G F) H) (hJ : JM X.K J ws alive (jn G F) H) (h : mLoop alive g T d ws τ G) :
    ∃ W : Nat → Nat → St → Hp → Prop, (∃ m, W 0 m σ H) ∧ ∀ i m σ H, W i m σ H → (J.stop i H ∧ (liftD X.K F G0 H0 d).nx σ H) ∨ (J.go i H ∧ ∃ N : St → Hp → Prop, (∀ σ' H', N σ' H' → ∃ m', m' < m ∧ W (i + 1) m' σ' H') ∧
      ∀ x H', J.yld i H x H' → g.t X.K x σ H' fun σ2 H2 => liftS B X.K T { (liftD X.K F G0 H0 d) with nx := N, ct := N, bk := (liftD X.K F G0 H0 d).nx } σ2 H2) := by
  refine ⟨fun i m σ' H' => m = ws.length - i ∧ i ≤ ws.length ∧ ∃ τ' G', Dj G' F ∧ Kp (jn G F) H (jn G' F) H' ∧ RG X.K (jn G' F) H' ∧ RS X.K (jn G' F) H' τ' σ' ∧ mLoop alive g T d (ws.drop i) τ' G', ⟨ws.length, by simp, Nat.zero_le _, τ, G, dj, Kp.refl _ _, rg, rs, h⟩, ?_⟩
  rintro i m σ1 H1 ⟨rfl, hi, τ1, G1, d1, k1, rg1, rs1, h1⟩
  by_cases hlt : i < ws.length
  · rw [List.drop_eq_getElem_cons hlt] at h1
    obtain ⟨al, h1⟩ := h1
    obtain ⟨go, yl⟩ := (hJ.at_ i _ H1 k1 rg1 (hJ.mono _ _ al)).1 ws[i] (List.getElem?_eq_getElem hlt)
    refine .inr ⟨go, fun σ' H' => ∃ τ' G', Dj G' F ∧ Kp (jn G F) H (jn G' F) H' ∧ RG X.K (jn G' F) H' ∧ RS X.K (jn G' F) H' τ' σ' ∧ mLoop alive g T d (ws.drop (i + 1)) τ' G', fun σ' H' z => ⟨ws.length - (i + 1), by omega, rfl, hlt, z⟩, fun x H' y => ?_⟩
    obtain ⟨k2, rg2, r2⟩ := yl x H' y
    refine GT.tmono g x σ1 H' _ _ (GT.ok g ws[i] x τ1 σ1 _ rg2 r2 (rs1.kp k2) h1) ?_
    intro σ2 H2 ⟨e2, ⟨τ2, rs2, h2⟩, _⟩
    rw [e2]
    have kk := k1.trans k2
    exact ⟨τ2, G1, F, _, d1, rs2, ⟨rg2, rb.kp.trans (k0.trans kk)⟩, h2, ⟨fun σ3 H3 ⟨τ3, G3, d3, k3, rg3, rs3, n3⟩ => ⟨τ3, G3, d3, kk.trans k3, rg3, rs3, n3⟩, fun v H3 z => z.behind (k0.trans kk), fun σ3 H3 z => z.behind (k0.trans kk), fun σ3 H3 ⟨τ3, G3, d3, k3, rg3, rs3, n3⟩ => ⟨τ3, G3, d3, kk.trans k3, rg3, rs3, n3⟩⟩⟩
  · have e : i = ws.length := by omega
    subst e
    rw [List.drop_length] at h1
    exact .inl ⟨(hJ.at_ _ _ H1 k1 rg1 (hJ.mono _ _ h1.1)).2 rfl, τ1, G1, d1, k0.trans k1, rg1, rs1, h1.2⟩
theorem ms_for {tg iter : Expr} {body : List Stmt} {wi : TIm} {g : GT} (hp : PassesOwn (model X.prog X.w) X.A X.env X.xe) (hc : X.calm = true) (hi : MI B X tg iter wi) (hg : MG X tg g) (hb : MSs B X body T)
    (hs : ∀ x, foldedSetIterable iter X.env x = pure x := by intro _; rfl) : MS B X (.For tg iter body [] pos) (mFor wi g T) :=
  ms_of (ps_for hp hc hi hg hb hs) fun σ H τ G F d dj rs rg h => ⟨τ, G, F, _, dj, rs, rg, h, fun J H1 ws alive G1 d1 k1 rg1 hJ h1 => loop_lift d1 k1 (rs.kp k1) rg rg1 hJ h1⟩
/-- a list, a tuple, a text -/
def mSeqI (Te : TEm) : TIm := fun τ G r => Te τ G fun x G1 => match x with
  | .tup ws => r ws (fun _ => True) G1
  | .lst ws => r ws (fun _ => True) G1
  | .fz ws => r ws (fun _ => True) G1
  | .str z => r (z.cps.toList.map fun c => .str ⟨#[c]⟩) (fun _ => True) G1
  | .ref a => ∃ ws, G1 a = some (.lst ws) ∧ r ws (fun G => G a = some (.lst ws)) G1
  | _ => False
end
end ML

set_option maxRecDepth 100000
namespace ML
open PySem PySem.Spec L2
open PyProof.Rows hiding St
section
variable {B : Bs} {X : Cx} {e : Expr} {es : List Expr} {Te : TEm} {Tl : TAm} {tg : Expr} {pos : Pos}
/-! ### iterators -/
theorem jm_list {K : PySem.W.Frag} {R0 : Gp} {H : Hp} {p : Addr} {ws : List D} {alive : Gp → Prop} (m : ∀ G F, alive G → alive (jn G F)) (h : ∀ R H', Kp R0 H R H' → RG K R H' → alive R → ∃ vs, SqL K H' p vs ∧ RpL K R H' ws vs) : JM K (Itl K p) ws alive R0 H := ⟨m, fun i G' H' k rg al => by
  obtain ⟨vs, sq, rl⟩ := h G' H' k rg al
  refine ⟨fun w hw => ?_, fun hi => ⟨vs, sq, by rw [rl.length]; exact Nat.le_of_eq hi⟩⟩
  obtain ⟨v, hv, rv⟩ := rl.get hw
  refine ⟨⟨vs, v, sq, hv⟩, fun x H2 ⟨e, y⟩ => ?_⟩
  subst e
  have : vs[i]? = some x := y vs sq
  rw [hv] at this
  cases this
  exact ⟨Kp.refl _ _, rg, rv⟩⟩
theorem jm_tup {K : PySem.W.Frag} {R0 : Gp} {H : Hp} {p : Addr} {ws : List D} {alive : Gp → Prop} (m : ∀ G F, alive G → alive (jn G F)) (h : ∀ R H', Kp R0 H R H' → RG K R H' → alive R → ∃ vs, SqT K H' p vs ∧ RpL K R H' ws vs) : JM K (Itt K p) ws alive R0 H := ⟨m, fun i G' H' k rg al => by
  obtain ⟨vs, sq, rl⟩ := h G' H' k rg al
  refine ⟨fun w hw => ?_, fun hi => ⟨vs, sq, by rw [rl.length]; exact Nat.le_of_eq hi⟩⟩
  obtain ⟨v, hv, rv⟩ := rl.get hw
  refine ⟨⟨vs, v, sq, hv⟩, fun x H2 ⟨e, y⟩ => ?_⟩
  subst e
  have : vs[i]? = some x := y vs sq
  rw [hv] at this
  cases this
  exact ⟨Kp.refl _ _, rg, rv⟩⟩
theorem jm_str {K : PySem.W.Frag} {R0 : Gp} {H : Hp} {z : Str} : JM K (Its z) (z.cps.toList.map fun c => .str ⟨#[c]⟩) (fun _ => True) R0 H := ⟨fun _ _ h => h, fun i G' H' k rg _ => by
  refine ⟨fun w hw => ?_, fun hi => by rw [List.length_map, Array.length_toList] at hi; exact Nat.le_of_eq hi⟩
  rw [List.getElem?_map, Array.getElem?_toList] at hw
  cases e : z.cps[i]? with
  | none => rw [e] at hw; cases hw
  | some c =>
    rw [e] at hw
    cases hw
    refine ⟨(Array.getElem?_eq_some_iff.mp e).1, fun x H2 ⟨e2, c', e3, e4⟩ => ?_⟩
    subst e2
    rw [e] at e3
    cases e3
    exact ⟨Kp.refl _ _, rg, e4⟩⟩
theorem pie_list {pins : List (Addr × Obj)} {σ : St} {H : Hp} {s : Shared} {R : It → Hp → Prop} {E : Value → Shared → Prop} {a : Addr} {xs : List V} (I : Inv X pins σ H s) (hq : SqL X.K H a xs) (q : R (Itl X.K a) H) : wpAny (model X.prog X.w) X.A (pyIter (.ref a)) (PIE X pins σ tg R) E s := by
  obtain ⟨its, rv, p, hz⟩ := I.list hq
  refine wpAny_pyIter_list p.isList ?_
  refine ⟨s.heap.objs.size, [s.heap.objs.size], _, _, H, rfl, I.kept (t' := s.toks) fun b o e => Heap.get?_push_of_some _ e, turn_list a _, ⟨_, Heap.get?_push_size _ rfl, rfl, rfl⟩, fun b hb => ?_, q⟩
  have e : b = s.heap.objs.size := by simpa using hb
  subst e
  exact I.fpOk (Nat.le_refl _) (I.hok.fresh (Nat.le_refl _))
theorem pie_tup {pins : List (Addr × Obj)} {σ : St} {H : Hp} {s : Shared} {R : It → Hp → Prop} {E : Value → Shared → Prop} {a : Addr} {xs : List V} (I : Inv X pins σ H s) (hq : SqT X.K H a xs) (q : R (Itt X.K a) H) : wpAny (model X.prog X.w) X.A (pyIter (.ref a)) (PIE X pins σ tg R) E s := by
  obtain ⟨its, rv, p, hz⟩ := I.tuple hq
  refine wpAny_pyIter_tuple (show s.heap.IsTuple a its.toArray from p) ?_
  refine ⟨s.heap.objs.size, [s.heap.objs.size], _, _, H, rfl, I.kept (t' := s.toks) fun b o e => Heap.get?_push_of_some _ e, turn_tuple a _, ⟨_, Heap.get?_push_size _ rfl, rfl, rfl⟩, fun b hb => ?_, q⟩
  have e : b = s.heap.objs.size := by simpa using hb
  subst e
  exact I.fpOk (Nat.le_refl _) (I.hok.fresh (Nat.le_refl _))
theorem mi_seq (he : ME B X e Te) : MI B X tg e (mSeqI Te) := by
  refine ⟨fun pins s σ H R I ⟨τ, G, F, r, dj, rs, rb, hT, c⟩ => ?_⟩
  refine thn (he.run pins s σ H (Po X.K F G H _) I ⟨τ, G, F, _, dj, rs, rb, hT, fun _ _ z => z⟩) fun u s1 ⟨xv, H1, I1, r1, w, G1, d1, k1, rg1, rp1, h1⟩ => ?_
  cases w with
  | tup ws =>
    obtain ⟨p, vs, rfl, ht, rl⟩ := rp1
    cases r1
    exact pie_tup I1 ht.sq (c _ H1 ws _ G1 d1 k1 rg1 (jm_tup (fun _ _ h => h) fun G' H' k _ _ => ⟨vs, (ht.keep k).sq, rl.kp k⟩) h1)
  | lst ws =>
    obtain ⟨p, vs, rfl, ht, rl⟩ := rp1
    cases r1
    exact pie_list I1 ht.sq (c _ H1 ws _ G1 d1 k1 rg1 (jm_list (fun _ _ h => h) fun G' H' k _ _ => ⟨vs, (ht.keep k).sq, rl.kp k⟩) h1)
  | fz ws =>
    obtain ⟨p, vs, rfl, ht, rl⟩ := rp1
    cases r1
    exact pie_list I1 ht.sq (c _ H1 ws _ G1 d1 k1 rg1 (jm_list (fun _ _ h => h) fun G' H' k _ _ => ⟨vs, (ht.keep k).sq, rl.kp k⟩) h1)
  | str z =>
    cases (show xv = .str z from rp1)
    obtain ⟨t, rfl⟩ := r1
    have q := c (Its z) H1 _ (fun _ => True) G1 d1 k1 rg1 jm_str h1
    cases ha : z.cps.all (· < 128)
    · exact wpAny_pyIter_wide ha (pi_one (tk := s1.toks) I1 _ (turn_str _ z t "str_iterator" (.inr rfl)) ⟨_, Heap.get?_push_size _ rfl, rfl, rfl⟩ q)
    · exact wpAny_pyIter_ascii ha (pi_one (tk := s1.toks) I1 _ (turn_str _ z t "str_ascii_iterator" (.inl rfl)) ⟨_, Heap.get?_push_size _ rfl, rfl, rfl⟩ q)
  | ref a =>
    obtain ⟨ws, g, h1⟩ := h1
    cases (show xv = .ref a from rp1)
    cases r1
    obtain ⟨vs, hv, rl⟩ := rg1 a _ (jn_some g)
    refine pie_list I1 (.inl (.inl hv)) (c _ H1 ws _ G1 d1 k1 rg1 (jm_list (fun _ _ h => jn_some h) fun G' H' k rg' al => ?_) h1)
    obtain ⟨vs', hv', rl'⟩ := rg' a _ al
    exact ⟨vs', .inl (.inl hv'), rl'⟩
  | _ => exact False.elim h1
/-- lo, lo + 1, .. -/
def rng (lo : Int) (n : Nat) : List D := (List.range n).map fun k => .int (lo + (k : Nat))
theorem rng_get {lo : Int} {n i : Nat} : (rng lo n)[i]? = if i < n then some (.int (lo + (i : Nat))) else none := by
  unfold rng
  rw [List.getElem?_map]
  by_cases h : i < n
  · rw [List.getElem?_range h, if_pos h]; rfl
  · rw [if_neg h, List.getElem?_eq_none (by rw [List.length_range]; omega)]; rfl
theorem rng_len {lo : Int} {n : Nat} : (rng lo n).length = n := by unfold rng; rw [List.length_map, List.length_range]
theorem jm_rng {K : PySem.W.Frag} {R0 : Gp} {H : Hp} {lo : Int} {n : Nat} : JM K (Itr lo n) (rng lo n) (fun _ => True) R0 H := ⟨fun _ _ h => h, fun i G' H' k rg _ => by
  refine ⟨fun w hw => ?_, fun hi => by rw [rng_len] at hi; exact Nat.le_of_eq hi⟩
  rw [rng_get] at hw
  by_cases h : i < n
  · rw [if_pos h] at hw
    cases hw
    exact ⟨h, fun x H2 ⟨e2, e3⟩ => by subst e2; exact ⟨Kp.refl _ _, rg, e3⟩⟩
  · rw [if_neg h] at hw; cases hw⟩
theorem RpL.one {K : PySem.W.Frag} {G : Gp} {H : Hp} {w : D} {vs : List V} (h : RpL K G H [w] vs) : ∃ v, vs = [v] ∧ Rp K G H w v := by
  obtain ⟨v, t, e, r, h⟩ := h
  cases (show t = [] from h)
  exact ⟨v, e, r⟩
theorem RpL.two {K : PySem.W.Frag} {G : Gp} {H : Hp} {w w' : D} {vs : List V} (h : RpL K G H [w, w'] vs) : ∃ v v', vs = [v, v'] ∧ Rp K G H w v ∧ Rp K G H w' v' := by
  obtain ⟨v, t, e, r, h⟩ := h
  obtain ⟨v', e', r'⟩ := RpL.one h
  exact ⟨v, v', by rw [e, e'], r, r'⟩
theorem RpL.three {K : PySem.W.Frag} {G : Gp} {H : Hp} {w w' w2 : D} {vs : List V} (h : RpL K G H [w, w', w2] vs) : ∃ v v' v2, vs = [v, v', v2] ∧ Rp K G H w v ∧ Rp K G H w' v' ∧ Rp K G H w2 v2 := by
  obtain ⟨v, t, e, r, h⟩ := h
  obtain ⟨v', v2, e', r', r2⟩ := RpL.two h
  exact ⟨v, v', v2, by rw [e, e'], r, r', r2⟩
def mRng1 (Ta : TEm) : TIm := fun τ G r => Ta τ G fun x G1 => match x with
  | .int j => (-(2 ^ 62) ≤ j ∧ j < 2 ^ 62) ∧ r (rng 0 j.toNat) (fun _ => True) G1
  | _ => False
def mRng2 (Ta Tb : TEm) : TIm := fun τ G r => Ta τ G fun x G1 => Tb τ G1 fun y G2 => match x, y with
  | .int i, .int j => (-(2 ^ 62) ≤ i ∧ i < 2 ^ 62 ∧ -(2 ^ 62) ≤ j ∧ j < 2 ^ 62) ∧ r (rng i (j - i).toNat) (fun _ => True) G2
  | _, _ => False
theorem mi_rng1 {a : Expr} {Ta : TEm} {p pos : Pos} (hg : Gl X "range") (hm : X.mg "range" = none) (ha : ME B X a Ta) (hs : starEach [a] X.env = [(false, eval a X.env)] := by rfl) (hs0 : starEach [a] X.env = (false, eval a X.env) :: starEach [] X.env := by rfl) : MI B X tg (.Call (.Name "range" p) [a] [] pos) (mRng1 Ta) :=
  pi_mono (pi_range1 hg hm (pa_cons ha pa_nil hs0) hs) fun σ H R ⟨τ, G, F, r, dj, rs, rb, h, c⟩ => ⟨τ, G, F, _, dj, rs, rb, h, fun v H1 ⟨w, G1, d1, k1, rg1, r1, h1⟩ => by
    cases w with
    | int j =>
      cases (show v = .int j from r1)
      exact ⟨j, rfl, h1.1.1, h1.1.2, c _ H1 _ _ G1 d1 k1 rg1 jm_rng h1.2⟩
    | _ => exact False.elim h1⟩
theorem mi_rng2 {a b : Expr} {Ta Tb : TEm} {p pos : Pos} (hg : Gl X "range") (hm : X.mg "range" = none) (ha : ME B X a Ta) (hb : ME B X b Tb) (hs : starEach [a, b] X.env = [(false, eval a X.env), (false, eval b X.env)] := by rfl) (hs2 : starEach [b] X.env = [(false, eval b X.env)] := by rfl)
    (hs0 : starEach [a, b] X.env = (false, eval a X.env) :: starEach [b] X.env := by rfl) (hs1 : starEach [b] X.env = (false, eval b X.env) :: starEach [] X.env := by rfl) : MI B X tg (.Call (.Name "range" p) [a, b] [] pos) (mRng2 Ta Tb) :=
  pi_mono (pi_range2 hg hm (pa_cons ha (pa_cons hb pa_nil hs1) hs0) hs hs2) fun σ H R ⟨τ, G, F, r, dj, rs, rb, h, c⟩ => ⟨τ, G, F, _, dj, rs, rb, h, fun v H1 ⟨w, G1, d1, k1, rg1, r1, h1⟩ => ⟨τ, G1, F, _, d1, rs.kp k1, rb.go k1 rg1, h1, fun v2 H2 ⟨w2, G2, d2, k2, rg2, r2, h2⟩ => by
    cases w with
    | int i =>
      cases w2 with
      | int j =>
        cases (show v = .int i from r1)
        cases (show v2 = .int j from r2)
        exact ⟨i, j, rfl, h2.1, c _ H2 _ _ G2 d2 (k1.trans k2) rg2 jm_rng h2.2⟩
      | _ => exact False.elim h2
    | _ => exact False.elim h2⟩⟩

/-! ### comprehensions -/
def mComp (alive : Gp → Prop) (g : GT) (tt : TTm) (Te : TEm) (τ0 : Sl) : List D → List D → Gp → (List D → Gp → Prop) → Prop
  | [], acc, G, q => alive G ∧ q acc G
  | w :: ws, acc, G, q => alive G ∧ g.run w G τ0 fun τ2 G2 => tt τ2 G2 fun b G3 => match b with
    | true => Te τ2 G3 fun y G4 => acc.length < sizeLine ∧ mComp alive g tt Te τ0 ws (acc ++ [y]) G4 q
    | false => mComp alive g tt Te τ0 ws acc G3 q
def wipeM (τ : Sl) : List Nat → Sl
  | [] => τ
  | v :: vs => (wipeM τ vs).set v none
def mLc (own : Bool) (wi : TIm) (g : GT) (tt : TTm) (Te : TEm) (vs : List Nat) : TEm := fun τ G q => wi τ G fun ws alive G1 => mComp alive g tt Te (wipeM τ vs) ws [] G1 fun acc G2 => newL own acc G2 q
def mYes : TTm := fun _ G q => q true G
theorem RS.wipe {K : PySem.W.Frag} {G : Gp} {H : Hp} {τ : Sl} {σ : St} (h : RS K G H τ σ) : ∀ vs : List Nat, RS K G H (wipeM τ vs) (L2.wipe σ vs)
  | [] => h
  | v :: vs => by
    have ih := RS.wipe h vs
    refine ⟨by unfold wipeM L2.wipe; rw [List.length_set, List.length_set]; exact ih.1, fun j u e => ?_⟩
    unfold wipeM at e
    by_cases hj : j = v
    · subst hj
      by_cases hl : j < (wipeM τ vs).length
      · rw [List.getElem?_set_self hl] at e; cases e
      · rw [List.getElem?_eq_none_iff.mpr (by rw [List.length_set]; omega)] at e; cases e
    · rw [List.getElem?_set_ne (Ne.symm hj)] at e
      obtain ⟨x, a, b⟩ := ih.2 j u e
      exact ⟨x, by unfold L2.wipe; rw [List.getElem?_set_ne (Ne.symm hj)]; exact a, b⟩
/-- the list that is being made, out of sight -/
def one (a : Addr) (o : MO) : Gp := fun b => if b = a then some o else none
theorem one_same {a : Addr} {o : MO} : one a o a = some o := if_pos rfl
theorem one_ne {a b : Addr} {o : MO} (h : b ≠ a) : one a o b = none := if_neg h
theorem jn_one {G F : Gp} {a : Addr} {o : MO} (h : G a = none) : jn G (jn (one a o) F) = put (jn G F) a o := by
  funext b
  by_cases hb : b = a
  · subst hb; rw [put_same, jn_none h, jn_some one_same]
  · rw [put_ne hb]
    cases e : G b with
    | some u => rw [jn_some e, jn_some e]
    | none => rw [jn_none e, jn_none e, jn_none (one_ne hb)]
theorem dj_one {G F : Gp} {a : Addr} {o : MO} (d : Dj G F) (h : G a = none) : Dj G (jn (one a o) F) := fun b u e => by
  have hb : b ≠ a := by rintro rfl; rw [h] at e; cases e
  rw [jn_none (one_ne hb)]; exact d b u e
theorem dj_one' {G F : Gp} {a : Addr} {o : MO} (h : Dj G (jn (one a o) F)) : Dj G F ∧ G a = none := by
  refine ⟨fun b u e => ?_, ?_⟩
  · have := h b u e
    exact (jn_free this).2
  · cases e : G a with
    | none => rfl
    | some u => have := h a u e; rw [jn_some one_same] at this; cases this
structure MPTs (B : Bs) (X : Cx) (ifs : List Expr) (t : TTm) : Prop where
  pts : PTs X ifs (liftT B X.K t)
theorem mts_nil : MPTs B X [] mYes := ⟨⟨fun pins s σ H Q I ⟨τ, G, F, q, dj, rs, rg, h, c⟩ => pts_nil.run pins s σ H Q I (c true H ⟨G, dj, Kp.refl _ _, rg.rg, h⟩)⟩⟩
theorem mts_one {c : Expr} {t : TTm} (h : MT B X c t) : MPTs B X [c] t := ⟨pts_one h⟩
theorem kp_drop {R : Gp} {H : Hp} {p : Addr} {m : MO} : Kp (put R p m) H R H := fun a o g h => by
  refine ⟨?_, h⟩
  have ne : a ≠ p := by rintro rfl; rw [put_same] at g; cases g
  rw [put_ne ne] at g; exact g
theorem rg_drop {K : PySem.W.Frag} {R : Gp} {H : Hp} {p : Addr} {m : MO} (h : R p = none) (rg : RG K (put R p m) H) : RG K R H := fun a u e => by
  have ne : a ≠ p := by rintro rfl; rw [h] at e; cases e
  exact (rg a u (by rw [put_ne ne]; exact e)).kp_same kp_drop fun _ z => z
theorem wipe_wipe (σ : St) : ∀ vs us : List Nat, (∀ i ∈ us, i ∈ vs) → L2.wipe (L2.wipe σ us) vs = L2.wipe σ vs
  | vs, [], _ => rfl
  | vs, u :: us, h => by
    show L2.wipe ((L2.wipe σ us).set u none) vs = _
    rw [wipe_set (h u List.mem_cons_self)]
    exact wipe_wipe σ vs us fun i hi => h i (List.mem_cons_of_mem _ hi)
theorem comp_lift {J : It} {ws : List D} {alive : Gp → Prop} {g : GT} {tt : TTm} {own : Bool} {vs : List Nat} {σ : St} {H0 H1 : Hp} {τ : Sl} {G0 G1 F : Gp} {q : MK} (hs : ∀ i ∈ g.slots, i ∈ vs) (dj : Dj G1 F) (k0 : Kp (jn G0 F) H0 (jn G1 F) H1) (rs : RS X.K (jn G1 F) H1 τ σ) (rb : RB B X.K (jn G0 F) H0)
    (rg : RG X.K (jn G1 F) H1) (hJ : JM X.K J ws alive (jn G1 F) H1) (h : mComp alive g tt Te (wipeM τ vs) ws [] G1 fun acc G2 => newL own acc G2 q) : ∀ D, H1 D = none → ∃ W : Nat → Nat → Hp → Prop, (∃ m, W 0 m (upd H1 D (.lst []))) ∧ ∀ i m H, W i m H →
      (J.stop i H ∧ Po X.K F G0 H0 q (.ref D) H) ∨ (J.go i H ∧ ∃ Nx : Hp → Prop, (∀ H', Nx H' → ∃ m', m' < m ∧ W (i + 1) m' H') ∧ ∀ x H', J.yld i H x H' → g.t X.K x (wipe σ vs) H' fun σ2 H2 => wipe σ2 vs = wipe σ vs ∧ liftT B X.K tt σ2 H2 fun b H3 =>
        if b = true then liftE B X.K Te σ2 H3 fun y H4 => ∃ acc, H4 D = some (.lst acc) ∧ acc.length < sizeLine ∧ Nx (upd H4 D (.lst (acc ++ [y]))) else Nx H3) := by
  intro D hD
  have hfr := jn_free (rg.fresh hD)
  let FD : List ML.D → Gp := fun acc => jn (one D (.lst acc)) F
  have jf : ∀ {G : Gp} {acc : List ML.D}, G D = none → jn G (FD acc) = put (jn G F) D (.lst acc) := fun h => jn_one h
  let In : List ML.D → List ML.D → Gp → Hp → Prop := fun acc rest G' H' => Dj G' (FD acc) ∧ Kp (jn G1 F) H1 (jn G' (FD acc)) H' ∧ RG X.K (jn G' (FD acc)) H' ∧ RS X.K (jn G' (FD acc)) H' (wipeM τ vs) (wipe σ vs) ∧ mComp alive g tt Te (wipeM τ vs) rest acc G' fun acc G2 => newL own acc G2 q
  have k1 : Kp (jn G1 F) H1 (jn G1 (FD [])) (upd H1 D (.lst [])) := by rw [jf hfr.1]; exact kp_own hD
  refine ⟨fun i m H' => m = ws.length - i ∧ i ≤ ws.length ∧ ∃ acc G', In acc (ws.drop i) G' H', ⟨ws.length, by simp, Nat.zero_le _, [], G1, dj_one dj hfr.1, k1, ?_, (rs.kp k1).wipe vs, h⟩, ?_⟩
  · rw [jf hfr.1]
    exact rg_own rg hD rfl
  rintro i m H ⟨rfl, hi, acc, G', dG, k2, rg2, rs2, hm⟩
  have hG' := dj_one' dG
  have atD : ∀ {G : Gp} {acc : List ML.D}, G D = none → (jn G (FD acc)) D = some (.lst acc) := fun h => by rw [jn_none h]; exact jn_some one_same
  by_cases hlt : i < ws.length
  · rw [List.drop_eq_getElem_cons hlt] at hm
    obtain ⟨al, hm⟩ := hm
    obtain ⟨go, yl⟩ := (hJ.at_ i _ H k2 rg2 (hJ.mono _ _ al)).1 ws[i] (List.getElem?_eq_getElem hlt)
    refine .inr ⟨go, fun H' => ∃ acc G', In acc (ws.drop (i + 1)) G' H', fun H' z => ⟨ws.length - (i + 1), by omega, rfl, hlt, z⟩, fun x H' y => ?_⟩
    obtain ⟨k3, rg3, r3⟩ := yl x H' y
    refine GT.tmono g x _ H' _ _ (GT.ok g ws[i] x (wipeM τ vs) (wipe σ vs) _ rg3 r3 (rs2.kp k3) hm) ?_
    intro σ2 H2 ⟨e2, ⟨τ2, rs3, h3⟩, hw⟩
    rw [e2]
    have kA := k2.trans k3
    refine ⟨(hw vs hs).trans (wipe_wipe σ vs vs fun _ z => z), τ2, G', FD acc, _, dG, rs3, ⟨rg3, rb.kp.trans (k0.trans kA)⟩, h3, fun b H3 ⟨G3, d3, k4, rg4, h4⟩ => ?_⟩
    cases b with
    | false =>
      rw [if_neg Bool.false_ne_true]
      exact ⟨acc, G3, d3, kA.trans k4, rg4, (rs2.kp k3).kp k4, h4⟩
    | true =>
      rw [if_pos rfl]
      refine ⟨τ2, G3, FD acc, _, d3, rs3.kp k4, ⟨rg4, rb.kp.trans (k0.trans (kA.trans k4))⟩, h4, fun y H4 ⟨yw, G4, d4, k5, rg5, r5, hz, h5⟩ => ?_⟩
      have g4 := dj_one' d4
      obtain ⟨lv, hv, rl⟩ := rg5 D _ (atD g4.2)
      have eq : jn G4 (FD (acc ++ [yw])) = put (jn G4 (FD acc)) D (.lst (acc ++ [yw])) := by rw [jf g4.2, jf g4.2, put_put]
      have k6 : Kp (jn G4 (FD acc)) H4 (jn G4 (FD (acc ++ [yw]))) (upd H4 D (.lst (lv ++ [y]))) := by rw [eq]; exact kp_put (atD g4.2)
      refine ⟨lv, hv, by rw [rl.length]; exact hz, acc ++ [yw], G4, dj_one g4.1 g4.2, ((kA.trans k4).trans k5).trans k6, ?_, (((rs2.kp k3).kp k4).kp k5).kp k6, h5⟩
      rw [eq]
      exact rg_put rg5 (atD g4.2) (rl.append (.cons r5 .nil))
  · have e : i = ws.length := by omega
    subst e
    rw [List.drop_length] at hm
    refine .inl ⟨(hJ.at_ _ _ H k2 rg2 (hJ.mono _ _ hm.1)).2 rfl, ?_⟩
    obtain ⟨lv, hv, rl⟩ := rg2 D _ (atD hG'.2)
    have eR : jn G' (FD acc) = put (jn G' F) D (.lst acc) := jf hG'.2
    cases own with
    | true =>
      refine ⟨.ref D, put G' D (.lst acc), dj_put hG'.1 hfr.2, ?_, ?_, rfl, hm.2 D hG'.2⟩
      · rw [jn_put, ← eR]; exact k0.trans k2
      · rw [jn_put, ← eR]; exact rg2
    | false =>
      have nD : (jn G' F) D = none := by rw [jn_none hG'.2]; exact hfr.2
      rw [eR] at k2 rg2 rl
      exact ⟨.lst acc, G', hG'.1, (k0.trans k2).trans kp_drop, rg_drop nD rg2, ⟨D, lv, rfl, ⟨nD, hv⟩, rl.kp kp_drop⟩, hm.2⟩
theorem m_lc {elt iter : Expr} {ifs : List Expr} {scope : Scope} {own : List (Str × Nat)} {wi : TIm} {g : GT} {tt : TTm} {Te : TEm} (ow : Bool) (hc : X.calm = true) (hN : X.N.Nodup) (hi : MI B X tg iter wi) (ok : BlkOk X.N X.env.scope scope own) (hs : ∀ i ∈ g.slots, i ∈ own.map (·.2))
    (hg : ∀ (s : Shared) (H : Hp) (C : Addr) (cl : List (Str × Addr)) (fp : List Addr), MG (X.blk s H scope (compEnvC scope cl C X.env) fp) tg g) (ht : ∀ (s : Shared) (H : Hp) (C : Addr) (cl : List (Str × Addr)) (fp : List Addr), MPTs B (X.blk s H scope (compEnvC scope cl C X.env) fp) ifs tt)
    (he : ∀ (s : Shared) (H : Hp) (C : Addr) (cl : List (Str × Addr)) (fp : List Addr), ME B (X.blk s H scope (compEnvC scope cl C X.env) fp) elt Te) (hf : ∀ x, foldedSetIterable iter X.env x = pure x := by intro _; rfl) :
    ME B X (.ListComp elt [⟨tg, iter, ifs, 0⟩] scope pos) (mLc ow wi g tt Te (own.map (·.2))) :=
  me_of (pe_lc (g := g.t X.K) (tt := liftT B X.K tt) (te := liftE B X.K Te) hc hN hi ok hg (fun a b c d e => (ht a b c d e).pts) he hf) fun σ H τ G F q dj rs rg h => ⟨τ, G, F, _, dj, rs, rg, h, fun J H1 ws alive G1 d1 k1 rg1 hJ h1 => comp_lift hs d1 k1 (rs.kp k1) rg rg1 hJ h1⟩
/-- y = [..] -/
theorem ms_setLc {i : Nat} {y : Str} {py spos : Pos} {elt iter : Expr} {ifs : List Expr} {scope : Scope} {own : List (Str × Nat)} {wi : TIm} {g : GT} {tt : TTm} {Te : TEm} (ow : Bool) (hc : X.calm = true) (hN : X.N.Nodup) (hy : X.N[i]? = some y) (hyl : X.env.scope.names.lookup y = some .local)
    (hsw : swapsWith (.ListComp elt [⟨tg, iter, ifs, 0⟩] scope pos) (some (.Name y py)) spos.line X.env = pure true) (hi : MI B X tg iter wi) (ok : BlkOk X.N X.env.scope scope own) (hs : ∀ i ∈ g.slots, i ∈ own.map (·.2))
    (hg : ∀ (s : Shared) (H : Hp) (C : Addr) (cl : List (Str × Addr)) (fp : List Addr), MG (X.blk s H scope (compEnvC scope cl C X.env) fp) tg g) (ht : ∀ (s : Shared) (H : Hp) (C : Addr) (cl : List (Str × Addr)) (fp : List Addr), MPTs B (X.blk s H scope (compEnvC scope cl C X.env) fp) ifs tt)
    (he : ∀ (s : Shared) (H : Hp) (C : Addr) (cl : List (Str × Addr)) (fp : List Addr), ME B (X.blk s H scope (compEnvC scope cl C X.env) fp) elt Te) (hf : ∀ x, foldedSetIterable iter X.env x = pure x := by intro _; rfl) :
    MS B X (.Assign [.Name y py] (.ListComp elt [⟨tg, iter, ifs, 0⟩] scope pos) spos) (mAsg (mLc ow wi g tt Te (own.map (·.2))) (.nm i)) :=
  ms_of (ps_setLc (g := g.t X.K) (tt := liftT B X.K tt) (te := liftE B X.K Te) hc hN hy hyl hsw hi ok hg (fun a b c d e => (ht a b c d e).pts) he hf) fun σ H τ G F d dj rs rg h => ⟨τ, G, F, _, dj, rs, rg, h, fun J H1 ws alive G1 d1 k1 rg1 hJ h1 D hD => by
    obtain ⟨W, w0, hW⟩ := comp_lift (q := fun w G2 => d.nx (τ.set i (some w)) G2) hs d1 k1 (rs.kp k1) rg rg1 hJ h1 D hD
    refine ⟨W, w0, fun j m H' hw => ?_⟩
    rcases hW j m H' hw with ⟨st, p⟩ | z
    · refine .inl ⟨st, ?_⟩
      obtain ⟨w, G', d', k, rg', r, hq⟩ := p
      exact ⟨_, G', d', k, rg', (rs.kp k).set r i, hq⟩
    · exact .inr z⟩
end
end ML

set_option maxRecDepth 100000
namespace ML
open PySem PySem.Spec L2
open PyProof.Rows hiding St

/-! ### room, and nothing under way that guards itself -/
structure Rm (k : Nat) (A : Around) : Prop where
  room : Room k A
  gd : A.guards = some []
theorem Rm.mono {j k : Nat} {A : Around} (r : Rm k A) (h : j ≤ k) : Rm j A := ⟨r.room.mono h, r.gd⟩
theorem Rm.deeper {k : Nat} {A : Around} (r : Rm (k + 1) A) (env : Env) : Rm k (A.deeper env) := ⟨r.room.deeper env, r.gd⟩
theorem Rm.hu {k : Nat} {A : Around} (r : Rm k A) : A.units + 64 < cLine := r.room.units
theorem Rm.make {k : Nat} {A : Around} (r : Rm (k + 1) A) (C : Addr) (us : List Value) (kw : List (Str × Value)) : Rm k (A.under (.builtin "type.__call__" ⟨.ref C :: us, kw⟩)) :=
  ⟨r.room.make C us kw, by
    have e : (A.under (.builtin "type.__call__" ⟨.ref C :: us, kw⟩)).guards = pushGuards (Code.guards (.builtin "type.__call__" ⟨.ref C :: us, kw⟩)) A.guards := rfl
    have e2 : Code.guards (.builtin "type.__call__" ⟨.ref C :: us, kw⟩) = [] := by
      unfold Code.guards
      rw [if_neg]
      first | decide | (simp [Code.isGuard, guardIds])
    rw [e, e2, r.gd]; rfl⟩

/-! ### contracts -/
abbrev MX := Value → List (Str × D) → Gp → Prop
abbrev MSp := List D → Gp → MK → MX → Prop
def XD (K : PySem.W.Frag) (R : Gp) (H : Hp) (d : Option Addr) (fs : List (Str × D)) : Prop := match d with
  | none => fs = []
  | some x => R x = none ∧ ∃ gs, H x = some (.xd gs) ∧ RF K R H fs gs
theorem XD.kp {K : PySem.W.Frag} {R R' : Gp} {H H' : Hp} {d : Option Addr} {fs : List (Str × D)} (k : Kp R H R' H') (h : XD K R H d fs) : XD K R' H' d fs := by
  cases d with
  | none => exact h
  | some x => obtain ⟨g, gs, e, r⟩ := h; obtain ⟨g', e'⟩ := k _ _ g e; exact ⟨g', gs, e', r.kp k⟩
def PoX (K : PySem.W.Frag) (F G : Gp) (H : Hp) (E : MX) : XK := fun cls d H' => ∃ fs G', Dj G' F ∧ Kp (jn G F) H (jn G' F) H' ∧ RG K (jn G' F) H' ∧ XD K (jn G' F) H' d fs ∧ E cls fs G'
def noX : MX := fun _ _ _ => False
structure FnG (P : Program) (w : World) (K : PySem.W.Frag) (mg : Str → Option Value) (base : Heap) (k : Nat) (f : Addr) (fd : FuncData) (ps : List Str) (sp : MSp) : Prop where
  len : ∀ ws G Q E, sp ws G Q E → ws.length = ps.length
  run : ∀ (A : Around) (outer : List Env) (s : Shared) (H : Hp) (args : Args) (us : List Value) (vs : List V) (ws : List D) (G F : Gp) (Q : MK) (E : MX), Rm k A → Env0 P w K mg base A outer s H → BindsTo s fd args (ps.zip us) → Vals vs us →
    Dj G F → RG K (jn G F) H → RpL K (jn G F) H ws vs → sp ws G Q E → codeAny (model P w) A (.call (.ref f) args) (CR (L2.CX P w) outer P w H s (Po K F G H Q) (PoX K F G H E)) s
section
variable {P : Program} {w : World} {K : PySem.W.Frag} {mg : Str → Option Value} {base : Heap} {f : Addr} {fd : FuncData} {ps : List Str} {sp sp' : MSp}
theorem FnG.mono {j k : Nat} (F : FnG P w K mg base j f fd ps sp) (h : j ≤ k) : FnG P w K mg base k f fd ps sp := ⟨F.len, fun A outer s H args us vs ws G Fr Q E hr => F.run A outer s H args us vs ws G Fr Q E (hr.mono h)⟩
theorem FnG.imp {k : Nat} (F : FnG P w K mg base k f fd ps sp) (h : ∀ ws G Q E, sp' ws G Q E → sp ws G Q E) : FnG P w K mg base k f fd ps sp' :=
  ⟨fun ws G Q E z => F.len ws G Q E (h _ _ _ _ z), fun A outer s H args us vs ws G Fr Q E hr e0 hb r dj rg rp hs => F.run A outer s H args us vs ws G Fr Q E hr e0 hb r dj rg rp (h _ _ _ _ hs)⟩
end

/-! ### what is no longer of use -/
def Sub (G G' : Gp) : Prop := ∀ a o, G a = some o → G' a = some o
theorem Sub.refl (G : Gp) : Sub G G := fun _ _ h => h
theorem Sub.trans {G G' G2 : Gp} (a : Sub G G') (b : Sub G' G2) : Sub G G2 := fun c o h => b c o (a c o h)
theorem Sub.new {G : Gp} {p : Addr} {o : MO} (h : G p = none) : Sub G (put G p o) := fun a u e => by
  have ne : a ≠ p := by rintro rfl; rw [h] at e; cases e
  rw [put_ne ne]; exact e
theorem Sub.dj {G G' F : Gp} (h : Sub G G') (d : Dj G' F) : Dj G F := fun a o e => d a o (h a o e)
theorem Sub.jn {G G' F : Gp} (h : Sub G G') (d : Dj G' F) : Sub (jn G F) (jn G' F) := fun a o e => by
  cases e1 : G a with
  | some u => rw [jn_some e1] at e; cases e; exact jn_some (h a _ e1)
  | none =>
    rw [jn_none e1] at e
    cases e2 : G' a with
    | none => rw [jn_none e2]; exact e
    | some u => rw [d a u e2] at e; cases e
theorem Sub.kp {R R' : Gp} {H : Hp} (h : Sub R R') : Kp R' H R H := fun a o g e => by
  refine ⟨?_, e⟩
  cases q : R a with
  | none => rfl
  | some u => rw [h a u q] at g; cases g
theorem Sub.rg {K : PySem.W.Frag} {R R' : Gp} {H : Hp} (h : Sub R R') (rg : RG K R' H) : RG K R H := fun a u e => (rg a u (h a u e)).kp_same h.kp fun _ z => z
/-- what is returned, some of the rest forgotten -/
def less (q : MK) : MK := fun w G' => ∃ G2, Sub G2 G' ∧ q w G2
theorem Po.less {K : PySem.W.Frag} {F G : Gp} {H : Hp} {q : MK} {v : V} {H' : Hp} (h : Po K F G H (less q) v H') : Po K F G H q v H' := by
  obtain ⟨w, G', d, k, rg, r, G2, s, z⟩ := h
  exact ⟨w, G2, s.dj d, k.trans (s.jn d).kp, (s.jn d).rg rg, r.kp (s.jn d).kp, z⟩

/-! ### a def keeps its contract -/
def startM (N : List Str) (ws : List D) : Sl := ws.map some ++ List.replicate (N.length - ws.length) none
theorem rs_start {K : PySem.W.Frag} {R : Gp} {H : Hp} {N : List Str} {ws : List D} {vs : List V} (r : RpL K R H ws vs) : RS K R H (startM N ws) (L2.start N vs) := by
  unfold startM L2.start
  have hl := r.length
  refine ⟨by rw [List.length_append, List.length_append, List.length_map, List.length_map, List.length_replicate, List.length_replicate, hl], fun i w e => ?_⟩
  by_cases hi : i < ws.length
  · rw [List.getElem?_append_left (by simpa using hi), List.getElem?_map] at e
    cases q : ws[i]? with
    | none => rw [q] at e; cases e
    | some u =>
      rw [q] at e
      cases e
      obtain ⟨v, hv, rv⟩ := r.get q
      exact ⟨v, by rw [List.getElem?_append_left (by simpa [hl] using hi), List.getElem?_map, hv]; rfl, rv⟩
  · rw [List.getElem?_append_right (by simpa using hi), List.getElem?_replicate] at e
    split at e <;> cases e
section
variable {P : Program} {w : World} {K : PySem.W.Frag} {mg : Str → Option Value} {base : Heap}
theorem fnG_of {k : Nat} {f : Addr} {name qual : Str} {params : Arguments} {body : List Stmt} {scope : Scope} {dV kV doc pm cdv ct oc : Value} {an od : Option Addr}
    {osl : Array (Option Value)} {N ps : List Str} {sp : MSp} (lk : K.lookup f = some ⟨oc, od, .func (PySem.W.fnOf name qual params body scope dV kV doc pm an cdv ct), osl⟩) (hcd : PySem.W.codeIn K cdv qual = true) (S : FnScope N ps scope)
    (len : ∀ ws G Q E, sp ws G Q E → ws.length = ps.length)
    (hbody : ∀ (A : Around) (outer : List Env) (s : Shared) (H : Hp) (G F : Gp) (ws : List D) (Q : MK) (E : MX), Rm k (A.deeper (envOfC qual scope s.heap.objs.size f cdv)) → sp ws G Q E →
      ∃ T, MSs ⟨jn G F, H⟩ (cxOf (L2.CX P w) P w K mg base N qual scope f cdv A outer s H (PoX K F G H E)) body T ∧ T { nx := fun _ G' => less Q .non G', rt := less Q } (startM N ws) G) :
    FnG P w K mg base (k + 1) f (PySem.W.fnOf name qual params body scope dV kV doc pm an cdv ct) ps sp := by
  refine ⟨len, fun A outer s H args us vs ws G F Q E hr e0 hb r dj rg rp hsp => ?_⟩
  have hl : vs.length = ps.length := rp.length.trans (len _ _ _ _ hsp)
  have KX : K.In s.heap := e0.mod.kin.keeps fun b o e => (e0.bs b o e).1
  have lim : s.heap.NoLimit := e0.mod.nolimit.keeps fun b o e => (e0.bs b o e).1
  have hkind : ∀ y ∈ ps.zip us, scope.names.lookup y.1 = some .local ∨ (scope.names.lookup y.1 = some .cell ∧ ((cellsFrom (s.heap.objs.size + 1) scope.names []).lookup y.1).isSome = true) := fun ⟨n, v⟩ hy => by
    rcases S.par n (List.of_mem_zip hy).1 with q | q
    · exact .inl q
    · exact .inr ⟨q, PySem.W.cellsFrom_some _ _ _ (.inl q)⟩
  refine codeAny_call_function hr.room.depth (KX _ _ lk) rfl S.co S.gen rfl (PySem.W.codeRec_of KX hcd) (hb _ _ _ _ ?_)
  refine wpAny_newFunctionEnv_cells S.kind hkind fun env he s1 x => ?_
  subst he
  refine ⟨lim.keeps x.toInCall.keep, codeAny_func ?_⟩
  obtain ⟨T, ht, hq⟩ := hbody A outer s H G F ws Q E (hr.deeper _) hsp
  have I : Inv (cxOf (L2.CX P w) P w K mg base N qual scope f cdv A outer s H (PoX K F G H E)) [] (L2.start N vs) H s1 := inv_start S hr.room.hd e0 hl r x
  have le : EndsLe (liftD K F G H { nx := fun _ G' => less Q .non G', rt := less Q }) { nx := fun _ H' => Po K F G H Q .non H', rt := Po K F G H Q } :=
    ⟨fun σ' H' ⟨τ', G', d, k1, rg', rs', z⟩ => Po.less ⟨.non, G', d, k1, rg', rfl, z⟩, fun v H' z => Po.less z, fun σ' H' ⟨τ', G', d, k1, rg', rs', z⟩ => z, fun σ' H' ⟨τ', G', d, k1, rg', rs', z⟩ => z⟩
  refine wpAny_mono (ht.run [] s1 (L2.start N vs) H { nx := fun _ H' => Po K F G H Q .non H', rt := Po K F G H Q } I ⟨startM N ws, G, F, _, dj, rs_start rp, ⟨rg, Kp.refl _ _⟩, hq, le⟩) (fun fl s' hs => ?_) fun e s' hs => hs
  have fin : ∀ {σ' : St} {H' : Hp} {v : V} {u : Value}, Inv (cxOf (L2.CX P w) P w K mg base N qual scope f cdv A outer s H (PoX K F G H E)) [] σ' H' s' → RelV v u → Po K F G H Q v H' → CE outer P w H s (Po K F G H Q) u s' :=
    fun {σ' H' v u} J rv q => ⟨v, H', J.os, J.bare, J.base, J.hok, rv, q⟩
  cases fl with
  | ret u =>
    obtain ⟨v, σ', H', J, rv, q⟩ := hs
    exact fin J rv q
  | next =>
    obtain ⟨σ', H', J, q⟩ := hs
    exact fin (v := V.non) (u := Value.none) J rfl q
  | brk =>
    obtain ⟨_, _, _, q⟩ := hs
    exact False.elim q
  | cont =>
    obtain ⟨_, _, _, q⟩ := hs
    exact False.elim q
theorem MSs.nox {B : Bs} {X : Cx} {sts : List Stmt} {T : TSm} (h : MSs B X.nox sts T) : MSs B X sts T := PSs.nox h
/-- a def that lets nothing out -/
theorem fnG_mk {x qual : Str} {st : Stmt} {f : Addr} {fd : FuncData} {N ps : List Str} {k : Nat} {sp : MSp} (F : Fun K x qual st f fd) (S : FnScope N ps (defScope st)) (len : ∀ ws G Q E, sp ws G Q E → ws.length = ps.length)
    (hbody : ∀ (cdv : Value) (A : Around) (outer : List Env) (s : Shared) (H : Hp) (G Fr : Gp) (ws : List D) (Q : MK) (E : MX), Rm k (A.deeper (envOfC qual (defScope st) s.heap.objs.size f cdv)) → sp ws G Q E →
      ∃ T, MSs ⟨jn G Fr, H⟩ (cxOf (L2.CX P w) P w K mg base N qual (defScope st) f cdv A outer s H (PoX K Fr G H E)).nox (defBody st) T ∧ T { nx := fun _ G' => less Q .non G', rt := less Q } (startM N ws) G) : FnG P w K mg base (k + 1) f fd ps sp := by
  obtain ⟨oc, od, kV, doc, pm, an, cdv, ct, osl, rfl, lk, hcd⟩ := F.ex
  refine fnG_of lk hcd S len fun A outer s H G Fr ws Q E hr hsp => ?_
  obtain ⟨T, h, q⟩ := hbody cdv A outer s H G Fr ws Q E hr hsp
  exact ⟨T, h.nox, q⟩
theorem fnG_mkX {x qual : Str} {st : Stmt} {f : Addr} {fd : FuncData} {N ps : List Str} {k : Nat} {sp : MSp} (F : Fun K x qual st f fd) (S : FnScope N ps (defScope st)) (len : ∀ ws G Q E, sp ws G Q E → ws.length = ps.length)
    (hbody : ∀ (cdv : Value) (A : Around) (outer : List Env) (s : Shared) (H : Hp) (G Fr : Gp) (ws : List D) (Q : MK) (E : MX), Rm k (A.deeper (envOfC qual (defScope st) s.heap.objs.size f cdv)) → sp ws G Q E →
      ∃ T, MSs ⟨jn G Fr, H⟩ (cxOf (L2.CX P w) P w K mg base N qual (defScope st) f cdv A outer s H (PoX K Fr G H E)) (defBody st) T ∧ T { nx := fun _ G' => less Q .non G', rt := less Q } (startM N ws) G) : FnG P w K mg base (k + 1) f fd ps sp := by
  obtain ⟨oc, od, kV, doc, pm, an, cdv, ct, osl, rfl, lk, hcd⟩ := F.ex
  exact fnG_of lk hcd S len fun A outer s H G Fr ws Q E hr hsp => hbody cdv A outer s H G Fr ws Q E hr hsp
end

/-! ### calls -/
/-- what this body wants of an exception of a callee -/
def PassM (X : Cx) (E : XK) : Prop := ∀ (pins : List (Addr × Obj)) (σ : St) (H : Hp) (s : Shared) (e : Value) (s' : Shared), Inv X pins σ H s → L2.CX X.prog X.w X.stack H s E e s' → X.xe e s'
theorem pass_no {X : Cx} {K : PySem.W.Frag} {F G : Gp} {H : Hp} : Passes (L2.CX X.prog X.w) X (PoX K F G H noX) := fun _ _ _ _ _ _ _ ⟨_, _, _, _, _, _, _, _, _, _, _, _, _, _, _, _, _, _, z⟩ => z.elim
section
variable {B : Bs} {X : Cx} {k : Nat} {f C : Addr} {fd : FuncData} {ps : List Str} {sp : MSp} {x : Str} {p pos : Pos} {e : Expr} {es : List Expr} {Tl : TAm}
theorem run_fnG {pins : List (Addr × Obj)} {σ : St} {H : Hp} {s : Shared} {args : Args} {us : List Value} {vs : List V} {ws : List D} {G F : Gp} {q : MK} {E : MX} (Fn : FnG X.prog X.w X.K X.mg X.base k f fd ps sp) (hr : Rm k X.A) (hb : BindsTo s fd args (ps.zip us))
    (hx : Passes (L2.CX X.prog X.w) X (PoX X.K F G H E)) (I : Inv X pins σ H s) (r : Vals vs us) (dj : Dj G F) (rg : RG X.K (jn G F) H) (rp : RpL X.K (jn G F) H ws vs) (h : sp ws G q E) : wpAny (model X.prog X.w) X.A (call (.ref f) args.pos args.kw) (EP X pins σ (Po X.K F G H q)) X.xe s := by
  refine wpAny_call (codeAny_mono (Fn.run X.A X.stack s H args us vs ws G F q E hr I.env0 hb r dj rg rp h) fun r s' hq => ?_)
  cases r with
  | error e => exact hx pins σ H s e s' I hq
  | ok fl =>
    cases fl with
    | ret u => exact I.after hq
    | next => exact False.elim hq
    | brk => exact False.elim hq
    | cont => exact False.elim hq
end
end ML

set_option maxRecDepth 100000
namespace ML
open PySem PySem.Spec L2
open PyProof.Rows hiding St

/-! ### calls of the program's own defs -/
def mCall (sp : MSp) (E : MX) (Tl : TAm) : TEm := fun τ G q => Tl τ G fun ws G1 => sp ws G1 q E
section
variable {B : Bs} {X : Cx} {k n : Nat} {f C : Addr} {fd : FuncData} {ps ks : List Str} {sp : MSp} {x : Str} {p pos kpos : Pos} {e : Expr} {es : List Expr} {Tl Tk : TAm} {Te : TEm} {kws : List Keyword} {nm : Option Str} {E : MX}
/-- what this body lets out of a callee -/
def PassX (X : Cx) (E : MX) : Prop := ∀ F G H, Passes (L2.CX X.prog X.w) X (PoX X.K F G H E)
theorem passX_no : PassX X noX := fun _ _ _ => pass_no
theorem m_callE (hx : PassX X E) (Fn : FnG X.prog X.w X.K X.mg X.base k f fd ps sp) (hr : Rm k X.A) (hg : Gl X x) (hm : X.mg x = some (.ref f)) (hk : PySem.W.keepIn X.K (.ref f) = true) (hb : Binds X.K fd ps []) (ha : MA B X (e :: es) Tl)
    (hdb : (x == ("__debug__" : Str)) = false := by decide) (he : starEach (e :: es) X.env = (false, eval e X.env) :: starEach es X.env := by rfl) (hpl : (backTo pos (starEach es X.env)).any (·.1) = false := by rfl) : ME B X (.Call (.Name x p) (e :: es) [] pos) (mCall sp E Tl) := by
  refine ⟨fun pins s σ H Q I ⟨τ, G, F, q, dj, rs, rb, h, c⟩ => ?_⟩
  refine wpAny_Call_Name_kw (ld_glob I hg hm ?_ hdb)
  refine PySem.W.callWith_K (h₀ := X.base) I.ok.mod.kin hk (thn (ha.run pos pins s σ H (PoA X.K F G H _) I ⟨τ, G, F, _, dj, rs, rb, h, fun _ _ z => z⟩) fun us s1 ⟨vs, H1, I1, r, ws, G1, d1, k1, rg1, rp1, hsp⟩ => ⟨I1.kIn, ?_⟩) he hpl
  have hl : (us ++ []).length = ps.length := by rw [List.append_nil, ← r.length, rp1.length]; exact Fn.len _ _ _ _ hsp
  have hb1 := hb s1 us I1.kIn hl
  rw [List.append_nil] at hb1
  exact thn (run_fnG (args := ⟨us, []⟩) Fn hr hb1 (hx F G1 H1) I1 r d1 rg1 rp1 hsp) fun u s2 z => EP.to z fun v H2 z => c v H2 (z.behind k1)
theorem m_call0E (hx : PassX X E) (Fn : FnG X.prog X.w X.K X.mg X.base k f fd ps sp) (hr : Rm k X.A) (hg : Gl X x) (hm : X.mg x = some (.ref f)) (hk : PySem.W.keepIn X.K (.ref f) = true) (hb : Binds X.K fd ps [])
    (hdb : (x == ("__debug__" : Str)) = false := by decide) : ME B X (.Call (.Name x p) [] [] pos) (mCall sp E mNil) := by
  refine ⟨fun pins s σ H Q I ⟨τ, G, F, q, dj, rs, rb, h, c⟩ => ?_⟩
  refine wpAny_Call_Name_kw (ld_glob I hg hm ?_ hdb)
  have hl : ([] ++ [] : List Value).length = ps.length := Fn.len _ _ _ _ (show sp [] G q E from h)
  have hb1 := hb s [] I.kIn hl
  refine PySem.W.callWith_K0 I.kIn hk ?_
  exact thn (run_fnG (args := ⟨[], []⟩) Fn hr hb1 (hx F G H) I .nil dj rb.rg .nil (show sp [] G q E from h)) fun u s2 z => EP.to z fun v H2 z => c v H2 z
theorem m_call (Fn : FnG X.prog X.w X.K X.mg X.base k f fd ps sp) (hr : Rm k X.A) (hg : Gl X x) (hm : X.mg x = some (.ref f)) (hk : PySem.W.keepIn X.K (.ref f) = true) (hb : Binds X.K fd ps []) (ha : MA B X (e :: es) Tl)
    (hdb : (x == ("__debug__" : Str)) = false := by decide) (he : starEach (e :: es) X.env = (false, eval e X.env) :: starEach es X.env := by rfl) (hpl : (backTo pos (starEach es X.env)).any (·.1) = false := by rfl) : ME B X (.Call (.Name x p) (e :: es) [] pos) (mCall sp noX Tl) :=
  m_callE passX_no Fn hr hg hm hk hb ha hdb he hpl
theorem m_call0 (Fn : FnG X.prog X.w X.K X.mg X.base k f fd ps sp) (hr : Rm k X.A) (hg : Gl X x) (hm : X.mg x = some (.ref f)) (hk : PySem.W.keepIn X.K (.ref f) = true) (hb : Binds X.K fd ps [])
    (hdb : (x == ("__debug__" : Str)) = false := by decide) : ME B X (.Call (.Name x p) [] [] pos) (mCall sp noX mNil) := m_call0E passX_no Fn hr hg hm hk hb hdb

/-! ### keywords -/
def MK' (B : Bs) (X : Cx) (kws : List Keyword) (T : TAm) : Prop := PK X kws (liftA B X.K T)
theorem mk_nil : MK' B X [] mNil := ⟨fun pos pins s σ H Q I ⟨τ, G, F, q, dj, rs, rb, h, c⟩ => (pk_nil (X := X)).run pos pins s σ H Q I (show Q [] H from c [] H ⟨[], G, dj, Kp.refl _ _, rb.rg, rfl, h⟩)⟩
theorem mk_cons (ha : ME B X e Te) (hr : MK' B X kws Tk) : MK' B X (⟨nm, e, kpos⟩ :: kws) (mCons Te Tk) := by
  refine ⟨fun pos pins s σ H Q I ⟨τ, G, F, q, dj, rs, rb, h, c⟩ => ?_⟩
  refine (pk_cons ha hr).run pos pins s σ H Q I ⟨τ, G, F, _, dj, rs, rb, h, fun x H1 ⟨w, G1, d1, k1, rg1, r1, h1⟩ => ⟨τ, G1, F, _, d1, rs.kp k1, rb.go k1 rg1, h1, fun vs H2 ⟨ws, G2, d2, k2, rg2, r2, h2⟩ => ?_⟩⟩
  exact c _ _ ⟨w :: ws, G2, d2, k1.trans k2, rg2, .cons (r1.kp k2) r2, h2⟩
def mCallK (sp : MSp) (E : MX) (g : List D → List D → List D) (n m : Nat) (Tl Tk : TAm) : TEm := fun τ G q => Tl τ G fun ws G1 => Tk τ G1 fun us G2 => ws.length = n ∧ us.length = m ∧ sp (g ws us) G2 q E
/-- how the values of a call with keywords are put in order -/
structure KB (K : PySem.W.Frag) (fd : FuncData) (ps : List Str) (n : Nat) (ks : List Str) (gv : List Value → List Value → List Value) (gV : List V → List V → List V) (gD : List D → List D → List D) : Prop where
  kb : KBn K fd ps n ks gv gV
  dd : ∀ {G : Gp} {H : Hp} {ws us : List D} {vs zs : List V}, RpL K G H ws vs → RpL K G H us zs → RpL K G H (gD ws us) (gV vs zs)
theorem m_callKE {gv : List Value → List Value → List Value} {gV : List V → List V → List V} {gD : List D → List D → List D} (hx : PassX X E) (Fn : FnG X.prog X.w X.K X.mg X.base k f fd ps sp) (hr : Rm k X.A) (hg : Gl X x) (hm : X.mg x = some (.ref f)) (hk : PySem.W.keepIn X.K (.ref f) = true)
    (hb : KB X.K fd ps n ks gv gV gD) (ha : MA B X (e :: es) Tl) (hkw : MK' B X kws Tk) (hall : (backToKw pos (keywordEach kws X.env)).all (·.1.isSome) = true := by rfl) (hks : (backToKw pos (keywordEach kws X.env)).filterMap (·.1) = ks := by rfl)
    (hdb : (x == ("__debug__" : Str)) = false := by decide) (he : starEach (e :: es) X.env = (false, eval e X.env) :: starEach es X.env := by rfl)
    (hpl : ((backTo pos (starEach (e :: es) X.env)).any (·.1) || (backToKw pos (keywordEach kws X.env)).any (·.1.isNone)) = false := by rfl) : ME B X (.Call (.Name x p) (e :: es) kws pos) (mCallK sp E gD n ks.length Tl Tk) := by
  refine ⟨fun pins s σ H Q I ⟨τ, G, F, q, dj, rs, rb, h, c⟩ => ?_⟩
  refine wpAny_Call_Name_kw (ld_glob I hg hm ?_ hdb)
  refine PySem.W.callWith_KW (h₀ := X.base) I.ok.mod.kin hk hall (thn (ha.run pos pins s σ H (PoA X.K F G H _) I ⟨τ, G, F, _, dj, rs, rb, h, fun _ _ z => z⟩) fun us s1 ⟨vs, H1, I1, r, ws, G1, d1, k1, rg1, rp1, h1⟩ => ?_) hpl he
  refine thn (hkw.run pos pins s1 σ H1 (PoA X.K F G1 H1 _) I1 ⟨τ, G1, F, _, d1, rs.kp k1, rb.go k1 rg1, h1, fun _ _ z => z⟩) fun us2 s2 ⟨zs, H2, I2, rz, ws2, G2, d2, k2, rg2, rp2, l1, l2, hsp⟩ => ⟨I2.kIn, ?_⟩
  rw [hks]
  have r1 : us.length = n := by rw [← r.length, rp1.length]; exact l1
  have r2 : us2.length = ks.length := by rw [← rz.length, rp2.length]; exact l2
  exact thn (run_fnG (args := ⟨us, ks.zip us2⟩) Fn hr (hb.kb.to s2 us us2 I2.kIn r1 r2) (hx F G2 H2) I2 (hb.kb.rel r rz) d2 rg2 (hb.dd (rp1.kp k2) rp2) hsp) fun u s3 z => EP.to z fun v H3 z => c v H3 (z.behind (k1.trans k2))
theorem m_callK0E {gv : List Value → List Value → List Value} {gV : List V → List V → List V} {gD : List D → List D → List D} (hx : PassX X E) (Fn : FnG X.prog X.w X.K X.mg X.base k f fd ps sp) (hr : Rm k X.A) (hg : Gl X x) (hm : X.mg x = some (.ref f)) (hk : PySem.W.keepIn X.K (.ref f) = true)
    (hb : KB X.K fd ps 0 ks gv gV gD) (hkw : MK' B X kws Tk) (hall : (backToKw pos (keywordEach kws X.env)).all (·.1.isSome) = true := by rfl) (hks : (backToKw pos (keywordEach kws X.env)).filterMap (·.1) = ks := by rfl)
    (hdb : (x == ("__debug__" : Str)) = false := by decide)
    (hpl : ((backTo pos (starEach [] X.env)).any (·.1) || (backToKw pos (keywordEach kws X.env)).any (·.1.isNone)) = false := by rfl) : ME B X (.Call (.Name x p) [] kws pos) (mCallK sp E gD 0 ks.length mNil Tk) := by
  refine ⟨fun pins s σ H Q I ⟨τ, G, F, q, dj, rs, rb, h, c⟩ => ?_⟩
  refine wpAny_Call_Name_kw (ld_glob I hg hm ?_ hdb)
  refine PySem.W.callWith_KW0 (h₀ := X.base) I.ok.mod.kin hk hall ?_ hpl
  refine thn (hkw.run pos pins s σ H (PoA X.K F G H _) I ⟨τ, G, F, _, dj, rs, rb, h, fun _ _ z => z⟩) fun us2 s2 ⟨zs, H2, I2, rz, ws2, G2, d2, k2, rg2, rp2, l1, l2, hsp⟩ => ⟨I2.kIn, ?_⟩
  rw [hks]
  have r2 : us2.length = ks.length := by rw [← rz.length, rp2.length]; exact l2
  exact thn (run_fnG (args := ⟨[], ks.zip us2⟩) Fn hr (hb.kb.to s2 [] us2 I2.kIn rfl r2) (hx F G2 H2) I2 (hb.kb.rel .nil rz) d2 rg2 (hb.dd .nil rp2) hsp) fun u s3 z => EP.to z fun v H3 z => c v H3 (z.behind k2)
end

/-! ### built-in functions -/
abbrev M1 := List D → Gp → MK → Prop
def liftC (K : PySem.W.Frag) (r : M1) : List V → Hp → VK → Prop := fun vs H Q => ∃ ws G F q, Dj G F ∧ RG K (jn G F) H ∧ RpL K (jn G F) H ws vs ∧ r ws G q ∧ ∀ v H', Po K F G H q v H' → Q v H'
def CM (X : Cx) (f : Value) (r : M1) : Prop := CallR X f (liftC X.K r)
theorem cm_of {X : Cx} {f : Value} {r : M1} {r0 : List V → Hp → VK → Prop} (h : CallR X f r0) (k : ∀ ws vs G F H q, Dj G F → RG X.K (jn G F) H → RpL X.K (jn G F) H ws vs → r ws G q → r0 vs H (Po X.K F G H q)) : CM X f r :=
  fun pins s σ H vs us Q I rv ⟨ws, G, F, q, dj, rg, rp, hr, c⟩ => thn (h pins s σ H vs us _ I rv (k ws vs G F H q dj rg rp hr)) fun u s' z => EP.to z c
theorem cm_or {X : Cx} {f : Value} {r r' : M1} (h : CM X f r) (h' : CM X f r') : CM X f fun ws G q => r ws G q ∨ r' ws G q := fun pins s σ H vs us Q I rv ⟨ws, G, F, q, dj, rg, rp, hr, c⟩ => by
  rcases hr with hr | hr
  · exact h pins s σ H vs us Q I rv ⟨ws, G, F, q, dj, rg, rp, hr, c⟩
  · exact h' pins s σ H vs us Q I rv ⟨ws, G, F, q, dj, rg, rp, hr, c⟩
def mCB (r : M1) (Tl : TAm) : TEm := fun τ G q => Tl τ G fun ws G1 => r ws G1 q
section
variable {B : Bs} {X : Cx} {x : Str} {p pos : Pos} {e : Expr} {es : List Expr} {Tl : TAm} {id T : String} {r : M1}
theorem m_callB (hc : CM X (.builtin id) r) (hg : Gl X x) (hm : X.mg x = none) (hv : bootBuiltins x = some (.builtin id)) (ha : MA B X (e :: es) Tl) (hn : x ≠ "__name__" := by decide) (hdb : (x == ("__debug__" : Str)) = false := by decide)
    (he : starEach (e :: es) X.env = (false, eval e X.env) :: starEach es X.env := by rfl) (hpl : (backTo pos (starEach es X.env)).any (·.1) = false := by rfl) : ME B X (.Call (.Name x p) (e :: es) [] pos) (mCB r Tl) :=
  me_of (pe_callB hc hg hm hv ha hn hdb he hpl) fun σ H τ G F q dj rs rg h => ⟨τ, G, F, _, dj, rs, rg, h, fun vs H1 ⟨ws, G1, d1, k1, rg1, r1, h1⟩ => ⟨ws, G1, F, q, d1, rg1, r1, h1, fun v H2 z => z.behind k1⟩⟩
theorem m_callTy (hc : CM X (.type T) r) (hg : Gl X x) (hm : X.mg x = none) (hv : bootBuiltins x = some (.type T)) (ha : MA B X (e :: es) Tl) (hn : x ≠ "__name__" := by decide) (hdb : (x == ("__debug__" : Str)) = false := by decide)
    (he : starEach (e :: es) X.env = (false, eval e X.env) :: starEach es X.env := by rfl) (hpl : (backTo pos (starEach es X.env)).any (·.1) = false := by rfl) : ME B X (.Call (.Name x p) (e :: es) [] pos) (mCB r Tl) :=
  me_of (pe_callTy hc hg hm hv ha hn hdb he hpl) fun σ H τ G F q dj rs rg h => ⟨τ, G, F, _, dj, rs, rg, h, fun vs H1 ⟨ws, G1, d1, k1, rg1, r1, h1⟩ => ⟨ws, G1, F, q, d1, rg1, r1, h1, fun v H2 z => z.behind k1⟩⟩
/-! the functions -/
def mAbs : M1 := fun ws G q => match ws with
  | [.int i] => q (.int (if i < 0 then -i else i)) G
  | _ => False
theorem RpL.int1 {K : PySem.W.Frag} {G : Gp} {H : Hp} {i : Int} {vs : List V} (h : RpL K G H [.int i] vs) : vs = [.int i] := by
  obtain ⟨v, e, r⟩ := RpL.one h
  cases (show v = .int i from r)
  exact e
theorem RpL.int2 {K : PySem.W.Frag} {G : Gp} {H : Hp} {i j : Int} {vs : List V} (h : RpL K G H [.int i, .int j] vs) : vs = [.int i, .int j] := by
  obtain ⟨v, v', e, r, r'⟩ := RpL.two h
  cases (show v = .int i from r)
  cases (show v' = .int j from r')
  exact e
theorem c_abs : CM X (.builtin "abs") mAbs := cm_of call_abs fun ws vs G F H q dj rg rp h => by
  unfold mAbs at h
  split at h
  · exact ⟨_, rp.int1, Po.here (w := .int _) dj rg rfl h⟩
  · exact False.elim h
def mMax2 : M1 := fun ws G q => match ws with
  | [.int i, .int j] => q (.int (if j > i then j else i)) G
  | _ => False
theorem c_max2 (hc : X.calm = true) : CM X (.builtin "max") mMax2 := cm_of (call_max2 hc) fun ws vs G F H q dj rg rp h => by
  unfold mMax2 at h
  split at h
  · exact ⟨_, _, rp.int2, Po.here (w := .int _) dj rg rfl h⟩
  · exact False.elim h
def mMin2 : M1 := fun ws G q => match ws with
  | [.int i, .int j] => q (.int (if j < i then j else i)) G
  | _ => False
theorem c_min2 (hc : X.calm = true) : CM X (.builtin "min") mMin2 := cm_of (call_min2 hc) fun ws vs G F H q dj rg rp h => by
  unfold mMin2 at h
  split at h
  · exact ⟨_, _, rp.int2, Po.here (w := .int _) dj rg rfl h⟩
  · exact False.elim h
def mInt : M1 := fun ws G q => match ws with
  | [.int i] => q (.int i) G
  | [.bl k] => q (.int (if k then 1 else 0)) G
  | _ => False
theorem c_int : CM X (.type "int") mInt := cm_of call_int1 fun ws vs G F H q dj rg rp h => by
  unfold mInt at h
  split at h
  · exact .inl ⟨_, rp.int1, Po.here (w := .int _) dj rg rfl h⟩
  · rename_i k
    obtain ⟨v, e, r⟩ := RpL.one rp
    cases (show v = .bl k from r)
    exact .inr ⟨k, e, Po.here (w := .int _) dj rg rfl h⟩
  · exact False.elim h
def mStr : M1 := fun ws G q => match ws with
  | [.int i] => i.natAbs.log2 < 1920 ∧ q (.str (toString i)) G
  | [.str a] => q (.str a) G
  | [.non] => q (.str "None") G
  | _ => False
theorem call_str_non : CallR X (.type "str") (fun xs H Q => xs = [.non] ∧ Q (.str "None") H) := by
  intro pins s σ H xs us Q I r h
  obtain ⟨rfl, q⟩ := h
  obtain ⟨u, rfl, ru⟩ := vals1 r
  cases ru
  exact PySem.P.str_of_none ⟨.str _, H, I.tok _, ⟨_, rfl⟩, q⟩
theorem c_str : CM X (.type "str") mStr := cm_of ((call_str_int.or SkE.call_str_str).or call_str_non) fun ws vs G F H q dj rg rp h => by
  unfold mStr at h
  split at h
  · exact .inl (.inl ⟨_, rp.int1, h.1, Po.here (w := .str _) dj rg rfl h.2⟩)
  · rename_i a
    obtain ⟨v, e, r⟩ := RpL.one rp
    cases (show v = .str a from r)
    exact .inl (.inr ⟨a, e, Po.here (w := .str _) dj rg rfl h⟩)
  · obtain ⟨v, e, r⟩ := RpL.one rp
    cases (show v = .non from r)
    exact .inr ⟨e, Po.here (w := .str _) dj rg rfl h⟩
  · exact False.elim h
def mLen : M1 := fun ws G q => match ws with
  | [.str z] => z.length ≤ sizeLine ∧ q (.int (z.length : Int)) G
  | [w] => ∃ xs, SeqOf G w xs ∧ q (.int (xs.length : Int)) G
  | _ => False
theorem c_len : CM X (.builtin "len") mLen := cm_of call_len fun ws vs G F H q dj rg rp h => by
  unfold mLen at h
  split at h
  · rename_i z
    obtain ⟨v, e, r⟩ := RpL.one rp
    cases (show v = .str z from r)
    exact ⟨_, _, e, ⟨h.1, rfl⟩, Po.here (w := .int _) dj rg rfl h.2⟩
  · obtain ⟨xs, hs, h⟩ := h
    obtain ⟨v, e, r⟩ := RpL.one rp
    obtain ⟨p, ys, ev, sq, rl⟩ := hs.at rg r
    subst ev
    rw [← rl.length] at h
    refine ⟨_, ys.length, e, ?_, Po.here (w := .int _) dj rg rfl h⟩
    rcases sq with sq | sq
    · exact .inl ⟨ys, sq, rfl⟩
    · exact .inr ⟨ys, sq, rfl⟩
  · exact False.elim h
/-- list(xs) -/
def mList (own : Bool) : M1 := fun ws G q => match ws with
  | [w] => ∃ xs, SeqOf G w xs ∧ newL own xs G q
  | _ => False
theorem c_list (own : Bool) : CM X (.type "list") (mList own) := cm_of call_list_of fun ws vs G F H q dj rg rp h => by
  unfold mList at h
  split at h
  · obtain ⟨xs, hs, h⟩ := h
    obtain ⟨v, e, r⟩ := RpL.one rp
    obtain ⟨p, ys, ev, sq, rl⟩ := hs.at rg r
    subst ev
    exact ⟨p, ys, e, sq, fun l hl => new_lst dj rg hl rl h⟩
  · exact False.elim h
/-- tuple(xs) -/
def mTupl : M1 := fun ws G q => match ws with
  | [w] => ∃ xs, SeqOf G w xs ∧ q (.tup xs) G
  | _ => False
theorem SeqOf.tup {K : PySem.W.Frag} {F G : Gp} {H : Hp} {x : D} {ws : List D} {v : V} (h : SeqOf G x ws) (rg : RG K (jn G F) H) (r : Rp K (jn G F) H x v) :
    (∃ p vs, v = .ref p ∧ SqL K H p vs ∧ RpL K (jn G F) H ws vs) ∨ (x = .tup ws ∧ ∃ p vs, v = .ref p ∧ SqT K H p vs) := by
  cases x with
  | lst us => cases h; obtain ⟨p, vs, e, a, r⟩ := r; exact .inl ⟨p, vs, e, a.sq, r⟩
  | fz us => cases h; obtain ⟨p, vs, e, a, r⟩ := r; exact .inl ⟨p, vs, e, a.sq, r⟩
  | tup us => cases h; obtain ⟨p, vs, e, a, r⟩ := r; exact .inr ⟨rfl, p, vs, e, a.sq⟩
  | ref a => obtain ⟨vs, hv, rv⟩ := rg a _ (jn_some h); exact .inl ⟨a, vs, r, .inl (.inl hv), rv⟩
  | _ => exact False.elim h
theorem c_tuple : CM X (.type "tuple") mTupl := cm_of call_tuple_of fun ws vs G F H q dj rg rp h => by
  unfold mTupl at h
  split at h
  · obtain ⟨xs, hs, h⟩ := h
    obtain ⟨v, e, r⟩ := RpL.one rp
    rcases hs.tup rg r with ⟨p, ys, ev, sq, rl⟩ | ⟨ex, p, ys, ev, sq⟩
    · subst ev
      exact ⟨p, ys, e, .inl ⟨sq, fun l hl => new_tup dj rg hl rl h⟩⟩
    · subst ev
      subst ex
      exact ⟨p, ys, e, .inr ⟨sq, Po.here dj rg r h⟩⟩
  · exact False.elim h

/-! ### list(range(..)), tuple(range(..)) -/
def mRg1 (Ta : TEm) (f : Int → Int → Gp → Prop) (τ : Sl) (G : Gp) : Prop := Ta τ G fun x G1 => match x with
  | .int j => f 0 j G1
  | _ => False
theorem rgV_rp {K : PySem.W.Frag} {G : Gp} {H : Hp} (a b : Int) : RpL K G H (rng a (b - a).toNat) (rgV a b) := by
  unfold rng rgV
  generalize List.range (b - a).toNat = l
  induction l with
  | nil => exact .nil
  | cons x l ih => exact .cons rfl ih
def mLstRg1 (own : Bool) (Ta : TEm) : TEm := fun τ G q => Ta τ G fun x G1 => match x with
  | .int j => RgOk 0 j ∧ newL own (rng 0 j.toNat) G1 q
  | _ => False
def mTupRg1 (Ta : TEm) : TEm := fun τ G q => Ta τ G fun x G1 => match x with
  | .int j => RgOk 0 j ∧ q (.tup (rng 0 j.toNat)) G1
  | _ => False
theorem m_listRg1 (own : Bool) {a : Expr} {Ta : TEm} {p p2 pos pos2 : Pos} (hc : X.calm = true) (hg : Gl X "list") (hm : X.mg "list" = none) (hg2 : Gl X "range") (hm2 : X.mg "range" = none) (ha : ME B X a Ta) (na : starEach [a] X.env = (false, eval a X.env) :: starEach [] X.env := by rfl)
    (nb : starEach [.Call (.Name "range" p2) [a] [] pos2] X.env = (false, eval (.Call (.Name "range" p2) [a] [] pos2) X.env) :: starEach [] X.env := by rfl) : ME B X (.Call (.Name "list" p) [.Call (.Name "range" p2) [a] [] pos2] [] pos) (mLstRg1 own Ta) :=
  me_of (pe_listRg hc hg hm (prg_1 hg2 hm2 ha na) nb) fun σ H τ G F q dj rs rg h => ⟨τ, G, F, _, dj, rs, rg, h, fun v H1 ⟨w, G1, d1, k1, rg1, r1, h1⟩ => by
    cases w with
    | int j =>
      cases (show v = .int j from r1)
      have hp := rgV_rp (K := X.K) (G := jn G1 F) (H := H1) 0 j
      rw [Int.sub_zero] at hp
      exact ⟨j, rfl, h1.1, fun l hl => (new_lst d1 rg1 hl hp h1.2).behind k1⟩
    | _ => exact False.elim h1⟩
theorem m_tupRg1 {a : Expr} {Ta : TEm} {p p2 pos pos2 : Pos} (hc : X.calm = true) (hg : Gl X "tuple") (hm : X.mg "tuple" = none) (hg2 : Gl X "range") (hm2 : X.mg "range" = none) (ha : ME B X a Ta) (na : starEach [a] X.env = (false, eval a X.env) :: starEach [] X.env := by rfl)
    (nb : starEach [.Call (.Name "range" p2) [a] [] pos2] X.env = (false, eval (.Call (.Name "range" p2) [a] [] pos2) X.env) :: starEach [] X.env := by rfl) : ME B X (.Call (.Name "tuple" p) [.Call (.Name "range" p2) [a] [] pos2] [] pos) (mTupRg1 Ta) :=
  me_of (pe_tupRg hc hg hm (prg_1 hg2 hm2 ha na) nb) fun σ H τ G F q dj rs rg h => ⟨τ, G, F, _, dj, rs, rg, h, fun v H1 ⟨w, G1, d1, k1, rg1, r1, h1⟩ => by
    cases w with
    | int j =>
      cases (show v = .int j from r1)
      have hp := rgV_rp (K := X.K) (G := jn G1 F) (H := H1) 0 j
      rw [Int.sub_zero] at hp
      exact ⟨j, rfl, h1.1, fun l hl => (new_tup d1 rg1 hl hp h1.2).behind k1⟩
    | _ => exact False.elim h1⟩

/-! ### repr -/
def mRepr : M1 := fun ws G q => match ws with
  | [.tup xs] => (okD (.tup xs) = true ∧ dep (.tup xs) ≤ 60 ∧ (pd (.tup xs)).showable = true ∧ (pd (.tup xs)).hasDict = false ∧ (pd (.tup xs)).depth ≤ 60 ∧ (pd (.tup xs)).shown.length ≤ sizeLine) ∧ q (.str (pd (.tup xs)).shown) G
  | _ => False
theorem c_repr {k : Nat} (hr : Rm k X.A) : CM X (.builtin "repr") mRepr := fun pins s σ H vs us Q I rv ⟨ws, G, F, q, dj, rg, rp, h, c⟩ => by
  unfold mRepr at h
  split at h
  · rename_i xs
    obtain ⟨⟨h1, h2, h3, h4, h5, h6⟩, h⟩ := h
    obtain ⟨v, e, r⟩ := RpL.one rp
    subst e
    have hdp := dp_of _ _ h1 r
    obtain ⟨p, zs, ev, _, _⟩ := id r
    subst ev
    obtain ⟨u, eu, ru⟩ := vals1 rv
    subst eu
    cases ru
    obtain ⟨as, hrd⟩ := Dp.reads I _ _ _ hdp rfl
    exact repr_of_reads' hrd h3 (fun z => by rw [h4] at z; cases z) hr.gd (by have := hr.hu; omega) (fun _ _ z => z) (fun h' u tk hk => ⟨.str _, H, I.kept hk, ⟨_, rfl⟩, c _ _ (Po.here (w := .str _) dj rg rfl h)⟩) h6
  · exact False.elim h
end

/-! ### methods of built-in types -/
abbrev M2' := D → List D → Gp → MK → Prop
def liftM (K : PySem.W.Frag) (r : M2') : V → List V → Hp → VK → Prop := fun x vs H Q => ∃ w ws G F q, Dj G F ∧ RG K (jn G F) H ∧ Rp K (jn G F) H w x ∧ RpL K (jn G F) H ws vs ∧ r w ws G q ∧ ∀ v H', Po K F G H q v H' → Q v H'
def MM (X : Cx) (id : String) (r : M2') : Prop := MtR X id (liftM X.K r)
theorem mm_of {X : Cx} {id : String} {r : M2'} {r0 : V → List V → Hp → VK → Prop} (h : MtR X id r0) (k : ∀ w x ws vs G F H q, Dj G F → RG X.K (jn G F) H → Rp X.K (jn G F) H w x → RpL X.K (jn G F) H ws vs → r w ws G q → r0 x vs H (Po X.K F G H q)) : MM X id r :=
  fun pins s σ H x vs v us Q I rx rv ⟨w, ws, G, F, q, dj, rg, rw', rp, hr, c⟩ => thn (h pins s σ H x vs v us _ I rx rv (k w x ws vs G F H q dj rg rw' rp hr)) fun u s' z => EP.to z c
theorem mm_or {X : Cx} {id : String} {r r' : M2'} (h : MM X id r) (h' : MM X id r') : MM X id fun w ws G q => r w ws G q ∨ r' w ws G q := fun pins s σ H x vs v us Q I rx rv ⟨w, ws, G, F, q, dj, rg, rw', rp, hr, c⟩ => by
  rcases hr with hr | hr
  · exact h pins s σ H x vs v us Q I rx rv ⟨w, ws, G, F, q, dj, rg, rw', rp, hr, c⟩
  · exact h' pins s σ H x vs v us Q I rx rv ⟨w, ws, G, F, q, dj, rg, rw', rp, hr, c⟩
def tyD (T : String) (w : D) (G : Gp) : Prop := match w with
  | .str _ => T = "str"
  | .int _ => T = "int"
  | .lst _ => T = "list"
  | .fz _ => T = "list"
  | .ref a => T = "list" ∧ ∃ xs, G a = some (.lst xs)
  | _ => False
theorem tyD.at {K : PySem.W.Frag} {F G : Gp} {H : Hp} {T : String} {w : D} {v : V} (h : tyD T w G) (rg : RG K (jn G F) H) (r : Rp K (jn G F) H w v) : tyV K T v H := by
  cases w with
  | str z => cases (show v = .str z from r); exact h
  | int z => cases (show v = .int z from r); exact h
  | lst us => obtain ⟨p, vs, e, a, r⟩ := r; subst e; exact .inl ⟨h, vs, a.sq⟩
  | fz us => obtain ⟨p, vs, e, a, r⟩ := r; subst e; exact .inl ⟨h, vs, a.sq⟩
  | ref a => cases (show v = .ref a from r); obtain ⟨e, xs, g⟩ := h; obtain ⟨vs, hv, _⟩ := rg a _ (jn_some g); exact .inl ⟨e, vs, .inl (.inl hv)⟩
  | _ => exact False.elim h
def mBM0 (T : String) (r : M2') (To : TEm) : TEm := fun τ G q => To τ G fun w G1 => tyD T w G1 ∧ r w [] G1 q
def mBM (T : String) (r : M2') (To : TEm) (Tl : TAm) : TEm := fun τ G q => To τ G fun w G1 => tyD T w G1 ∧ Tl τ G1 fun ws G2 => r w ws G2 q
section
variable {B : Bs} {X : Cx} {o e : Expr} {es : List Expr} {To : TEm} {Tl : TAm} {name : Str} {apos cpos : Pos} {T id : String} {r : M2'}
theorem m_bm0 (pa : PlainAttrs T) (slot : Slot T name id) (hty : typeOf (.builtin id) = pure (.type "method_descriptor")) (hm : MM X id r) (ho : ME B X o To)
    (hbase : attributeBase o name X.env (eval o X.env) = eval o X.env := by rfl) (hline : (apos.endLine == cpos.line) = true := by rfl) : ME B X (.Call (.Attribute o name apos) [] [] cpos) (mBM0 T r To) :=
  me_of (pe_bm0 pa slot hty hm ho hbase hline) fun σ H τ G F q dj rs rg h => ⟨τ, G, F, _, dj, rs, rg, h, fun v H1 ⟨w, G1, d1, k1, rg1, r1, h1⟩ => ⟨h1.1.at rg1 r1, w, [], G1, F, q, d1, rg1, r1, .nil, h1.2, fun v H2 z => z.behind k1⟩⟩
theorem m_bm (pa : PlainAttrs T) (slot : Slot T name id) (hty : typeOf (.builtin id) = pure (.type "method_descriptor")) (hm : MM X id r) (ho : ME B X o To) (ha : MA B X (e :: es) Tl)
    (hbase : attributeBase o name X.env (eval o X.env) = eval o X.env := by rfl)
    (hfew : ((backTo cpos (starEach (e :: es) X.env)).all (fun x => !x.1) && (backToKw cpos (keywordEach [] X.env)).all (fun x => x.1.isSome)
      && decide ((e :: es).length + ([] : List Keyword).length + (if ([] : List Keyword).isEmpty then 0 else 1) < 30)) = true := by rfl)
    (hline : (apos.endLine == cpos.line) = true := by rfl) (hs : starEach (e :: es) X.env = (false, eval e X.env) :: starEach es X.env := by rfl) (hplain : (backTo cpos (starEach es X.env)).any (·.1) = false := by rfl) :
    ME B X (.Call (.Attribute o name apos) (e :: es) [] cpos) (mBM T r To Tl) :=
  me_of (pe_bm pa slot hty hm ho ha hbase hfew hline hs hplain) fun σ H τ G F q dj rs rg h => ⟨τ, G, F, _, dj, rs, rg, h, fun v H1 ⟨w, G1, d1, k1, rg1, r1, h1⟩ => ⟨h1.1.at rg1 r1, τ, G1, F, _, d1, rs.kp k1, rg.go k1 rg1, h1.2, fun vs H2 ⟨ws, G2, d2, k2, rg2, r2, h2⟩ =>
    ⟨w, ws, G2, F, q, d2, rg2, r1.kp k2, r2, h2, fun v H3 z => z.behind (k1.trans k2)⟩⟩⟩
/-! the methods -/
def mAppend : M2' := fun w ws G q => match w, ws with
  | .ref a, [y] => ∃ xs, G a = some (.lst xs) ∧ xs.length < sizeLine ∧ q .non (put G a (.lst (xs ++ [y])))
  | _, _ => False
theorem mm_append : MM X "list.append" mAppend := mm_of mt_append fun w x ws vs G F H q dj rg rx rp h => by
  unfold mAppend at h
  split at h
  · rename_i a y
    obtain ⟨xs, g, hz, h⟩ := h
    obtain ⟨v, e, r⟩ := RpL.one rp
    obtain ⟨zs, hv, rl⟩ := rg a _ (jn_some g)
    obtain ⟨d', k', rg'⟩ := put_step dj rg g (rl.append (.cons r .nil))
    exact ⟨a, zs, v, rx, e, hv, by rw [rl.length]; exact hz, ⟨.non, _, d', k', rg', rfl, h⟩⟩
  · exact False.elim h
def mPop0 : M2' := fun w ws G q => match w, ws with
  | .ref a, [] => ∃ xs y, G a = some (.lst xs) ∧ xs[xs.length - 1]? = some y ∧ q y (put G a (.lst xs.dropLast))
  | _, _ => False
theorem mm_pop0 : MM X "list.pop" mPop0 := mm_of mt_pop fun w x ws vs G F H q dj rg rx rp h => by
  unfold mPop0 at h
  split at h
  · rename_i a
    obtain ⟨xs, y, g, hy, h⟩ := h
    cases (show vs = [] from rp)
    obtain ⟨zs, hv, rl⟩ := rg a _ (jn_some g)
    obtain ⟨d', k', rg'⟩ := put_step dj rg g rl.dropLast
    obtain ⟨v, ev, rv⟩ := rl.get hy
    exact ⟨a, zs, v, rx, rfl, hv, by rw [rl.length]; exact ev, ⟨y, _, d', k', rg', rv.kp k', h⟩⟩
  · exact False.elim h
def mPopAt : M2' := fun w ws G q => match w, ws with
  | .ref a, [.int i] => ∃ xs k y, G a = some (.lst xs) ∧ -(2 ^ 63) ≤ i ∧ i < 2 ^ 63 ∧ seqIndex? i xs.length = some k ∧ xs[k]? = some y ∧ q y (put G a (.lst (xs.eraseIdx k)))
  | _, _ => False
theorem mm_popAt : MM X "list.pop" mPopAt := mm_of mt_popAt fun w x ws vs G F H q dj rg rx rp h => by
  unfold mPopAt at h
  split at h
  · rename_i a i
    obtain ⟨xs, k, y, g, h1, h2, h3, hy, h⟩ := h
    obtain ⟨zs, hv, rl⟩ := rg a _ (jn_some g)
    obtain ⟨d', k', rg'⟩ := put_step dj rg g (rl.eraseIdx k)
    obtain ⟨v, ev, rv⟩ := rl.get hy
    exact ⟨a, zs, i, k, v, rx, rp.int1, hv, h1, h2, by rw [rl.length]; exact h3, ev, ⟨y, _, d', k', rg', rv.kp k', h⟩⟩
  · exact False.elim h
def mInsert : M2' := fun w ws G q => match w, ws with
  | .ref a, [.int i, y] => ∃ xs, G a = some (.lst xs) ∧ xs.length < sizeLine ∧ 0 ≤ i ∧ i < 2 ^ 63 ∧ q .non (put G a (.lst (xs.take i.toNat ++ [y] ++ xs.drop i.toNat)))
  | _, _ => False
theorem mm_insert : MM X "list.insert" mInsert := mm_of mt_insert fun w x ws vs G F H q dj rg rx rp h => by
  unfold mInsert at h
  split at h
  · rename_i a i y
    obtain ⟨xs, g, hz, h1, h2, h⟩ := h
    obtain ⟨v, v', e, r, r'⟩ := RpL.two rp
    cases (show v = .int i from r)
    obtain ⟨zs, hv, rl⟩ := rg a _ (jn_some g)
    obtain ⟨d', k', rg'⟩ := put_step dj rg g (((rl.take i.toNat).append (.cons r' .nil)).append (rl.drop i.toNat))
    exact ⟨a, zs, i, v', rx, e, hv, by rw [rl.length]; exact hz, h1, h2, ⟨.non, _, d', k', rg', rfl, h⟩⟩
  · exact False.elim h
/-- texts -/
def strsOf : List D → Option (List Str)
  | [] => some []
  | .str z :: r => (strsOf r).map (z :: ·)
  | _ :: _ => none
theorem strsOf_rp {K : PySem.W.Frag} {G : Gp} {H : Hp} : ∀ {ws : List D} {vs : List V} {ys : List Str}, strsOf ws = some ys → RpL K G H ws vs → vs = ys.map V.str
  | [], vs, ys, e, h => by cases e; exact h
  | w :: ws, vs, ys, e, h => by
    cases w with
    | str z =>
      unfold strsOf at e
      cases e2 : strsOf ws with
      | none => rw [e2] at e; cases e
      | some us =>
        rw [e2] at e
        cases e
        obtain ⟨v, r, e3, h1, h2⟩ := h
        cases (show v = .str z from h1)
        rw [e3, strsOf_rp e2 h2]; rfl
    | _ => cases e
theorem strsOf_map (ys : List Str) : strsOf (ys.map D.str) = some ys := by
  induction ys with
  | nil => rfl
  | cons y ys ih => rw [List.map_cons, strsOf, ih]; rfl
def mJoin : M2' := fun w ws G q => match w, ws with
  | .str a, [x] => ∃ xs ys, SeqOf G x xs ∧ strsOf xs = some ys ∧ (ys.map (·.length)).sum + ys.length * a.length ≤ 16777216 ∧ q (.str (Txt.join a ys)) G
  | _, _ => False
theorem mm_join : MM X "str.join" mJoin := mm_of mt_join fun w x ws vs G F H q dj rg rx rp h => by
  unfold mJoin at h
  split at h
  · rename_i a y
    obtain ⟨xs, ys, hs, es, hz, h⟩ := h
    obtain ⟨v, e, r⟩ := RpL.one rp
    obtain ⟨p, zs, ev, sq, rl⟩ := hs.at rg r
    rw [strsOf_rp es rl] at sq
    subst ev
    exact ⟨a, p, ys, rx, e, sq, hz, Po.here (w := .str _) dj rg rfl h⟩
  · exact False.elim h
end
end ML

set_option maxRecDepth 100000
namespace PySem
open Sem (wp)
open AutoSeq1 (wpAny_loadPart')
theorem Draws.tuple {prog : Program} {w : World} {A : Around} (hh : A.handled = none) (it l : Addr) (hne : l ≠ it) (items : Array Value) :
    Draws prog w A it [it, l] items.size (fun i v => items[i]? = some v) (fun i h => h.IsTupleIter it l i ∧ h.IsTuple l items) where
  live := fun _ _ st => let ⟨o, ho, _⟩ := st.1; ⟨o, ho⟩
  frame := fun _ _ _ st hk => ⟨st.1.at fun o e => hk it (by simp) o e, by obtain ⟨o, ho, r⟩ := st.2; exact ⟨o, hk l (by simp) o ho, r⟩⟩
  item := fun i s Q E hi st hQ => by
    refine RZ.nextOf_tuple_item st.1 st.2 (x := items[i]) (by simp [hi]) fun h' hit' hs' => ?_
    exact hQ _ h' s.toks (by simp [hi]) ⟨hit', st.2.extBut hs'.extBut hne⟩ hs'
  done := fun s Q E st hE => RZ.nextOf_tuple_end hh st.1 st.2 (by simp) fun h' e hs' he => hE h' e hs' he
theorem meets_enumerate_newT (l : Addr) (items : Array Value) (n : Nat) (dct : Option Addr) (sl : Array (Option Value)) :
    Meets (Builtin.«enumerate.__new__» ⟨[.type "enumerate", .ref l], []⟩) (fun _ R s => s.heap.get? l = some { cls := .type "tuple", dict := dct, data := .seq items n, slots := sl } ∧
      R (.ok (.ret (.ref (s.heap.push { cls := .type "tuple_iterator", data := .fields #[.ref l, .int 0 0] }).objs.size)))
        { s with heap := (s.heap.push { cls := .type "tuple_iterator", data := .fields #[.ref l, .int 0 0] }).push { cls := .type "enumerate", data := .fields #[.none, .bool false, .ref s.heap.objs.size, rawInt 0, .none, .none] } }) :=
  .of_wp fun prog w A R s h => by
    obtain ⟨hp, g, d, tk, os⟩ := s; obtain ⟨hl, h⟩ := h
    have hsub := sub_enumerate
    have hL : Heap.IsTuple (Shared.heap ⟨hp, g, d, tk, os⟩) l items := ⟨_, hl, rfl, n, rfl⟩
    wp_walk using wpAny_loadPart' hl
    refine wpAny_stack_any fun st => wpAny_pure ?_
    split
    · rename_i c _ _ _ _ _
      cases (c == Value.type "enumerate")
      · wp_walk using wpAny_loadPart' hl, wpAny_pyIter_tuple hL
        exact ⟨_, rfl, h⟩
      · wp_walk using wpAny_loadPart' hl, wpAny_pyIter_tuple hL
        exact ⟨_, rfl, h⟩
    · wp_walk using wpAny_loadPart' hl, wpAny_pyIter_tuple hL
      exact ⟨_, rfl, h⟩
section
variable {prog : Program} {w : World} {A : Around} {E : Value → Shared → Prop} {s : Shared}
theorem call_enumerate_tuple {l : Addr} {items : Array Value} {Q : Value → Shared → Prop} (hL : s.heap.IsTuple l items)
    (h : ∀ h', IsEnum h' (s.heap.objs.size + 1) s.heap.objs.size 0 .none → h'.IsTupleIter s.heap.objs.size l 0 → h'.objs.size = s.heap.objs.size + 2 →
      (∀ b o, s.heap.get? b = some o → h'.get? b = some o) → Q (.ref (s.heap.objs.size + 1)) { s with heap := h' }) :
    wpAny (model prog w) A (call (.type "enumerate") [.ref l]) Q E s := by
  obtain ⟨⟨c, dct, dt, sl⟩, hl, hc, n, hd⟩ := hL
  replace hc : c = .type "tuple" := hc
  replace hd : dt = .seq items n := hd
  subst hc hd
  refine callType_new F.called_enumerate (by decide) (F.typeCall_enumerate_1 _) (F.newCall_enumerate_1 _) (fun obj => F.args_object_init_2 obj _) F.entry_enumerate_new
    (meets_enumerate_newT l items n dct sl) ⟨hl, ?_⟩
  have hz : (s.heap.push { cls := .type "tuple_iterator", data := .fields #[.ref l, .int 0 0] }).objs.size = s.heap.objs.size + 1 := Heap.size_push ..
  show _ ∧ _
  rw [hz]
  have he : IsEnum ((s.heap.push { cls := .type "tuple_iterator", data := .fields #[.ref l, .int 0 0] }).push
      { cls := .type "enumerate", data := .fields #[.none, .bool false, .ref s.heap.objs.size, rawInt 0, .none, .none] }) (s.heap.objs.size + 1) s.heap.objs.size 0 .none := by
    have := Heap.get?_push_size (s.heap.push { cls := .type "tuple_iterator", data := .fields #[.ref l, .int 0 0] })
      (o := { cls := .type "enumerate", data := .fields #[.none, .bool false, .ref s.heap.objs.size, rawInt 0, .none, .none] }) rfl
    rw [hz] at this; exact this
  refine ⟨⟨_, he, rfl⟩, h _ he ⟨_, Heap.get?_push_of_some _ (Heap.get?_push_size _ rfl), rfl, rfl⟩ (by rw [Heap.size_push, hz]) fun b o x => Heap.get?_push_of_some _ (Heap.get?_push_of_some _ x)⟩
end
end PySem
namespace ML
open PySem PySem.Spec L2
open PyProof.Rows hiding St
/-- the tuple at a, each item in a new pair -/
def IteT (K : PySem.W.Frag) (a : Addr) : It :=
  ⟨fun i H => ∃ (xs : List V) (x : V), SqT K H a xs ∧ xs[i]? = some x, fun i H v H' => ∃ T x, v = .ref T ∧ H T = none ∧ H' = upd H T (.tup [.int (i : Nat), x]) ∧ ∀ xs, SqT K H a xs → xs[i]? = some x, fun i H => ∃ xs : List V, SqT K H a xs ∧ xs.length = i⟩
theorem turn_enumT {P : Program} {w : World} {K : PySem.W.Frag} {elts : List Expr} {kk : Nat} {tpos : Pos} (a e it : Addr) (hat : a ≠ it) :
    Turn P w K (.Tuple elts kk tpos) (IteT K a) [e, it] e (fun i h => (∃ old, IsEnum h e it ((i : Nat) : Int) old) ∧ h.IsTupleIter it a i ∧ e ≠ it ∧ a ≠ e) where
  mem := by simp
  obj := fun i h st b hb => by
    obtain ⟨⟨old, he⟩, ⟨o, ho, hc, hd⟩, _⟩ := st
    have e' : b = e ∨ b = it := by simpa using hb
    rcases e' with z | z
    · rw [z]; exact ⟨_, he, fun v q => nomatch q⟩
    · rw [z]; exact ⟨o, ho, fun v q => by rw [hd] at q; cases q⟩
  keep := fun i h h' st k => let ⟨⟨old, he⟩, hi, hne⟩ := st; ⟨⟨old, k e (by simp) _ he⟩, hi.at fun o q => k it (by simp) o q, hne⟩
  item := by
    intro X hP hw hK hc i pins s σ H E I hf st hg
    subst hP hw hK
    obtain ⟨⟨old, he⟩, hit, hne, hae⟩ := st
    obtain ⟨xs, x, hq, hx⟩ := hg
    obtain ⟨its, rv, p, hz⟩ := I.tuple hq
    obtain ⟨u, hu, ru⟩ := rv.get hx
    have hel : e < s.heap.objs.size := Heap.lt_size he
    have hil : it < s.heap.objs.size := by obtain ⟨_, q, _⟩ := hit; exact Heap.lt_size q
    have hlt : i < its.toArray.size := by
      have := (List.getElem?_eq_some_iff.mp hu).1
      simpa using this
    refine wpAny_pyNext_enum_itemD (fp := [it, a]) (PySem.Draws.tuple (A := X.A.in1) (I.ok.hd hc) it a hat its.toArray) he ⟨hit, (show s.heap.IsTuple a its.toArray from p)⟩ hlt hne (by simp; exact ⟨hne, fun z => hae z.symm⟩) fun x' h' tk hP' ho hst' hT hsz hk => ?_
    have ex : x' = u := by
      have h2 : its.toArray[i]? = some x' := hP'
      rw [List.getElem?_toArray, hu] at h2
      cases h2; rfl
    subst ex
    refine ⟨_, rfl, wpAny_letOwnedTupleGo_enum (s := { s with heap := h', toks := tk + 1 }) ho fun h'' he' sb => ?_⟩
    have hT2 : h''.get? s.heap.objs.size = some { cls := .type "tuple", data := .seq #[.int i tk, x'] } := (sb.2 _ (Nat.ne_of_gt hel)).trans hT
    have new : ObjOk X.prog X.w (upd H s.heap.objs.size (.tup [.int (i : Nat), x])) h'' s.heap.objs.size (.tup [.int (i : Nat), x]) :=
      ⟨by show 2 ≤ sizeLine; decide, [.int i tk, x'], .cons ⟨_, rfl⟩ (.cons ru .nil), ⟨_, hT2, rfl, _, rfl⟩⟩
    have I1 : Inv X pins σ (upd H s.heap.objs.size (.tup [.int (i : Nat), x])) { s with heap := h'', toks := tk + 1 } :=
      I.turnedNew (ch := [e, it]) (fun b ob hb q => (sb.2 b (fun z => hb (by simp [z]))).trans (hk b ob (fun z => hb (by simp [z])) (fun z => hb (by simp [z])) q)) hf (Nat.le_refl _) new
    refine ⟨.ref s.heap.objs.size, _, I1, rfl, ⟨_, x, rfl, I.hok.fresh (Nat.le_refl _), rfl, fun ys hy => by rw [I.tuple_inj hy hq]; exact hx⟩, ⟨⟨x', ?_⟩, hst'.1.at fun o q => (sb.2 it (Ne.symm hne)).trans q, hne, hae⟩, fun b hb => ?_⟩
    · have e1 : ((i + 1 : Nat) : Int) = (i : Int) + 1 := by omega
      rw [e1]; exact he'
    · have hb' : b < s.heap.objs.size := by
        have e' : b = e ∨ b = it := by simpa using hb
        rcases e' with z | z
        · rw [z]; exact hel
        · rw [z]; exact hil
      rw [upd_ne (Nat.ne_of_lt hb')]
      exact (hf b hb).1
  done := by
    intro X hP hw hK hc i pins s σ H E I hf st hg
    subst hP hw hK
    obtain ⟨⟨old, he⟩, hit, hne, hae⟩ := st
    obtain ⟨xs, hq, hx⟩ := hg
    obtain ⟨its, rv, p, hz⟩ := I.tuple hq
    obtain ⟨f0, f1, f2, f3, f4, f5⟩ := hf it (by simp)
    have hl := rv.length
    have hn : its.toArray.size = i := by simp; omega
    refine wpAny_pyNext_enum_endD (fp := [it, a]) (PySem.Draws.tuple (A := X.A.in1) (I.ok.hd hc) it a hat its.toArray) he ⟨by rw [hn]; exact hit, (show s.heap.IsTuple a its.toArray from p)⟩ fun h' eb => ⟨rfl, I.turned (t' := s.toks) (fun b o hb q => eb b o hb q) f0 f1 f3 f4 f5⟩
  self := fun A i s Q E st h => let ⟨⟨_, he⟩, _⟩ := st; wpAny_pyIter_enum he h
def iEnumA (K : PySem.W.Frag) (ta : TA) : TI := fun σ H R => ta σ H fun vs H1 => ∃ a xs, vs = [.ref a] ∧ ((SqL K H1 a xs ∧ R (Ite K a) H1) ∨ (SqT K H1 a xs ∧ R (IteT K a) H1))
theorem pi_enumA {X : Cx} {e : Expr} {ta : TA} {p pos tpos : Pos} {elts : List Expr} {kk : Nat} (hg : Gl X "enumerate") (hm : X.mg "enumerate" = none) (ha : PA X [e] ta) (hs : starEach [e] X.env = [(false, eval e X.env)] := by rfl) :
    PI X (.Tuple elts kk tpos) (.Call (.Name "enumerate" p) [e] [] pos) (iEnumA X.K ta) := by
  refine ⟨fun pins s σ H R I h => ?_⟩
  refine Call_ (ld_blt I hg hm boot_enumerate (PyProof.Rows.callWith_type1 (thn (ha.run pos pins s σ H _ I h) fun us s1 ⟨vs, H1, I1, r1, q1⟩ => ?_) hs rfl))
  obtain ⟨a, xs, ex, q⟩ := q1
  subst ex
  cases r1 with
  | cons r rr =>
    cases rr
    cases r
    have fp2 : ∀ b ∈ [s1.heap.objs.size + 1, s1.heap.objs.size], FpOk X pins H1 b := fun b hb => by
      have e' : b = s1.heap.objs.size + 1 ∨ b = s1.heap.objs.size := by simpa using hb
      have hle : s1.heap.objs.size ≤ b := by
        rcases e' with z | z
        · rw [z]; exact Nat.le_add_right _ _
        · rw [z]; exact Nat.le_refl _
      exact I1.fpOk hle (I1.hok.fresh hle)
    rcases q with ⟨hq, q⟩ | ⟨hq, q⟩
    · obtain ⟨its, rv, p', hz⟩ := I1.list hq
      refine call_enumerate_list p'.isList fun h' he hit hsz hk => wpAny_pyIter_enum he ?_
      have I2 : Inv X pins σ H1 { s1 with heap := h' } := I1.kept (t' := s1.toks) hk
      exact ⟨s1.heap.objs.size + 1, [s1.heap.objs.size + 1, s1.heap.objs.size], _, _, H1, rfl, I2, turn_enum a (s1.heap.objs.size + 1) s1.heap.objs.size, ⟨⟨.none, he⟩, hit, Nat.succ_ne_self _⟩, fp2, q⟩
    · obtain ⟨its, rv, p', hz⟩ := I1.tuple hq
      have ta' : s1.heap.IsTuple a its.toArray := p'
      have la : a < s1.heap.objs.size := by obtain ⟨o, ho, _⟩ := ta'; exact Heap.lt_size ho
      refine PySem.call_enumerate_tuple ta' fun h' he hit hsz hk => wpAny_pyIter_enum he ?_
      have I2 : Inv X pins σ H1 { s1 with heap := h' } := I1.kept (t' := s1.toks) hk
      exact ⟨s1.heap.objs.size + 1, [s1.heap.objs.size + 1, s1.heap.objs.size], _, _, H1, rfl, I2, turn_enumT a (s1.heap.objs.size + 1) s1.heap.objs.size (Nat.ne_of_lt la), ⟨⟨.none, he⟩, hit, Nat.succ_ne_self _, Nat.ne_of_lt (Nat.lt_succ_of_lt la)⟩, fp2, q⟩
/-- numbered -/
def enumD (ws : List D) : List D := ws.mapIdx fun i w => .tup [.int (i : Nat), w]
theorem enumD_get {ws : List D} {i : Nat} {w : D} (h : (enumD ws)[i]? = some w) : ∃ x, ws[i]? = some x ∧ w = .tup [.int (i : Nat), x] := by
  unfold enumD at h
  rw [List.getElem?_mapIdx] at h
  cases e : ws[i]? with
  | none => rw [e] at h; cases h
  | some x => rw [e] at h; cases h; exact ⟨x, rfl, rfl⟩
theorem enumD_len {ws : List D} : (enumD ws).length = ws.length := List.length_mapIdx
def mEnum (Ta : TEm) : TIm := fun τ G r => Ta τ G fun x G1 => match x with
  | .tup ws => r (enumD ws) (fun _ => True) G1
  | .lst ws => r (enumD ws) (fun _ => True) G1
  | .fz ws => r (enumD ws) (fun _ => True) G1
  | .ref a => ∃ ws, G1 a = some (.lst ws) ∧ r (enumD ws) (fun G => G a = some (.lst ws)) G1
  | _ => False
theorem pair_new {K : PySem.W.Frag} {R : Gp} {H : Hp} {T : Addr} {w w' : D} {v v' : V} (rg : RG K R H) (hT : H T = none) (r : Rp K R H w v) (r' : Rp K R H w' v') :
    Kp R H R (upd H T (.tup [v, v'])) ∧ RG K R (upd H T (.tup [v, v'])) ∧ Rp K R (upd H T (.tup [v, v'])) (.tup [w, w']) (.ref T) :=
  ⟨kp_new hT, rg_new rg hT, T, [v, v'], rfl, .inl ⟨rg.fresh hT, upd_same⟩, .cons (r.kp (kp_new hT)) (.cons (r'.kp (kp_new hT)) .nil)⟩
theorem jm_enumT {K : PySem.W.Frag} {R0 : Gp} {H : Hp} {p : Addr} {ws : List D} {alive : Gp → Prop} (m : ∀ G F, alive G → alive (jn G F)) (h : ∀ R H', Kp R0 H R H' → RG K R H' → alive R → ∃ vs, SqT K H' p vs ∧ RpL K R H' ws vs) : JM K (IteT K p) (enumD ws) alive R0 H := ⟨m, fun i G' H' k rg al => by
  obtain ⟨vs, sq, rl⟩ := h G' H' k rg al
  refine ⟨fun w hw => ?_, fun hi => ⟨vs, sq, by rw [rl.length, ← enumD_len]; exact hi⟩⟩
  obtain ⟨x, hx, rfl⟩ := enumD_get hw
  obtain ⟨v, hv, rv⟩ := rl.get hx
  refine ⟨⟨vs, v, sq, hv⟩, fun x2 H2 ⟨T, x3, e, hT, eH, y⟩ => ?_⟩
  have : vs[i]? = some x3 := y vs sq
  rw [hv] at this
  cases this
  subst e
  subst eH
  exact pair_new rg hT rfl rv⟩
theorem jm_enumL {K : PySem.W.Frag} {R0 : Gp} {H : Hp} {p : Addr} {ws : List D} {alive : Gp → Prop} (m : ∀ G F, alive G → alive (jn G F)) (h : ∀ R H', Kp R0 H R H' → RG K R H' → alive R → ∃ vs, SqL K H' p vs ∧ RpL K R H' ws vs) : JM K (Ite K p) (enumD ws) alive R0 H := ⟨m, fun i G' H' k rg al => by
  obtain ⟨vs, sq, rl⟩ := h G' H' k rg al
  refine ⟨fun w hw => ?_, fun hi => ⟨vs, sq, by rw [rl.length, ← enumD_len]; exact Nat.le_of_eq hi⟩⟩
  obtain ⟨x, hx, rfl⟩ := enumD_get hw
  obtain ⟨v, hv, rv⟩ := rl.get hx
  refine ⟨⟨vs, v, sq, hv⟩, fun x2 H2 ⟨T, x3, e, hT, eH, y⟩ => ?_⟩
  have : vs[i]? = some x3 := y vs sq
  rw [hv] at this
  cases this
  subst e
  subst eH
  exact pair_new rg hT rfl rv⟩
section
variable {B : Bs} {X : Cx} {e e2 : Expr} {Te Te2 : TEm} {tpos : Pos} {elts : List Expr} {kk : Nat} {p pos : Pos}
theorem mi_enum (hg : Gl X "enumerate") (hm : X.mg "enumerate" = none) (ha : ME B X e Te) (hs : starEach [e] X.env = [(false, eval e X.env)] := by rfl) (hs0 : starEach [e] X.env = (false, eval e X.env) :: starEach [] X.env := by rfl) :
    MI B X (.Tuple elts kk tpos) (.Call (.Name "enumerate" p) [e] [] pos) (mEnum Te) :=
  pi_mono (pi_enumA hg hm (pa_cons ha pa_nil hs0) hs) fun σ H R ⟨τ, G, F, r, dj, rs, rb, h, c⟩ => ⟨τ, G, F, _, dj, rs, rb, h, fun v H1 ⟨w, G1, d1, k1, rg1, r1, h1⟩ => by
    cases w with
    | tup ws =>
      obtain ⟨p, vs, rfl, ht, rl⟩ := r1
      exact ⟨p, vs, rfl, .inr ⟨ht.sq, c _ H1 _ _ G1 d1 k1 rg1 (jm_enumT (fun _ _ h => h) fun G' H' k _ _ => ⟨vs, (ht.keep k).sq, rl.kp k⟩) h1⟩⟩
    | lst ws =>
      obtain ⟨p, vs, rfl, ht, rl⟩ := r1
      exact ⟨p, vs, rfl, .inl ⟨ht.sq, c _ H1 _ _ G1 d1 k1 rg1 (jm_enumL (fun _ _ h => h) fun G' H' k _ _ => ⟨vs, (ht.keep k).sq, rl.kp k⟩) h1⟩⟩
    | fz ws =>
      obtain ⟨p, vs, rfl, ht, rl⟩ := r1
      exact ⟨p, vs, rfl, .inl ⟨ht.sq, c _ H1 _ _ G1 d1 k1 rg1 (jm_enumL (fun _ _ h => h) fun G' H' k _ _ => ⟨vs, (ht.keep k).sq, rl.kp k⟩) h1⟩⟩
    | ref a =>
      obtain ⟨ws, g, h1⟩ := h1
      cases (show v = .ref a from r1)
      obtain ⟨vs, hv, rl⟩ := rg1 a _ (jn_some g)
      exact ⟨a, vs, rfl, .inl ⟨.inl (.inl hv), c _ H1 _ _ G1 d1 k1 rg1 (jm_enumL (fun _ _ h => jn_some h) fun G' H' k rg' al => by
        obtain ⟨vs', hv', rl'⟩ := rg' a _ al
        exact ⟨vs', .inl (.inl hv'), rl'⟩) h1⟩⟩
    | _ => exact False.elim h1⟩

/-! ### zip of two tuples -/
def zipD (xs ys : List D) : List D := List.zipWith (fun x y => .tup [x, y]) xs ys
theorem zipD_get {xs ys : List D} {i : Nat} {w : D} (h : (zipD xs ys)[i]? = some w) : ∃ x y, xs[i]? = some x ∧ ys[i]? = some y ∧ w = .tup [x, y] := by
  unfold zipD at h
  rw [List.getElem?_zipWith] at h
  cases e : xs[i]? with
  | none => rw [e] at h; cases h
  | some x =>
    cases e2 : ys[i]? with
    | none => rw [e, e2] at h; cases h
    | some y => rw [e, e2] at h; cases h; exact ⟨x, y, rfl, rfl, rfl⟩
theorem zipD_len {xs ys : List D} : (zipD xs ys).length = min xs.length ys.length := List.length_zipWith
def mZipT (Ta Tb : TEm) : TIm := fun τ G r => Ta τ G fun x G1 => Tb τ G1 fun y G2 => match x, y with
  | .tup xs, .tup ys => r (zipD xs ys) (fun _ => True) G2
  | .lst xs, .lst ys => r (zipD xs ys) (fun _ => True) G2
  | _, _ => False
theorem jm_zipT {K : PySem.W.Frag} {R0 : Gp} {H : Hp} {a b : Addr} {xs ys : List D} (h : ∀ R H', Kp R0 H R H' → ∃ vs us, SqT K H' a vs ∧ SqT K H' b us ∧ RpL K R H' xs vs ∧ RpL K R H' ys us) : JM K (RZ.ItzT K a b) (zipD xs ys) (fun _ => True) R0 H := ⟨fun _ _ h => h, fun i G' H' k rg _ => by
  obtain ⟨vs, us, sq, sq2, rl, rl2⟩ := h G' H' k
  refine ⟨fun w hw => ?_, fun hi => ⟨vs, us, sq, sq2, by rw [rl.length, rl2.length]; rw [zipD_len] at hi; omega⟩⟩
  obtain ⟨x, y, hx, hy, rfl⟩ := zipD_get hw
  obtain ⟨v, hv, rv⟩ := rl.get hx
  obtain ⟨u, hu, ru⟩ := rl2.get hy
  refine ⟨⟨vs, us, v, u, sq, sq2, hv, hu⟩, fun x2 H2 ⟨T, x3, y3, e, hT, eH, q1, q2⟩ => ?_⟩
  have e1 : vs[i]? = some x3 := q1 vs sq
  have e2 : us[i]? = some y3 := q2 us sq2
  rw [hv] at e1
  rw [hu] at e2
  cases e1
  cases e2
  subst e
  subst eH
  exact pair_new rg hT rv ru⟩
theorem jm_zipL {K : PySem.W.Frag} {R0 : Gp} {H : Hp} {a b : Addr} {xs ys : List D} (h : ∀ R H', Kp R0 H R H' → ∃ vs us, SqL K H' a vs ∧ SqL K H' b us ∧ RpL K R H' xs vs ∧ RpL K R H' ys us) : JM K (Itz K a b) (zipD xs ys) (fun _ => True) R0 H := ⟨fun _ _ h => h, fun i G' H' k rg _ => by
  obtain ⟨vs, us, sq, sq2, rl, rl2⟩ := h G' H' k
  refine ⟨fun w hw => ?_, fun hi => ⟨vs, us, sq, sq2, by rw [rl.length, rl2.length]; rw [zipD_len] at hi; omega⟩⟩
  obtain ⟨x, y, hx, hy, rfl⟩ := zipD_get hw
  obtain ⟨v, hv, rv⟩ := rl.get hx
  obtain ⟨u, hu, ru⟩ := rl2.get hy
  refine ⟨⟨vs, us, v, u, sq, sq2, hv, hu⟩, fun x2 H2 ⟨T, x3, y3, e, hT, eH, q1, q2⟩ => ?_⟩
  have e1 : vs[i]? = some x3 := q1 vs sq
  have e2 : us[i]? = some y3 := q2 us sq2
  rw [hv] at e1
  rw [hu] at e2
  cases e1
  cases e2
  subst e
  subst eH
  exact pair_new rg hT rv ru⟩
theorem mi_zip (hg : Gl X "zip") (hm : X.mg "zip" = none) (ha : ME B X e Te) (hb : ME B X e2 Te2) (hs : starEach [e, e2] X.env = (false, eval e X.env) :: starEach [e2] X.env := by rfl) (hpl : (backTo pos (starEach [e2] X.env)).any (·.1) = false := by rfl)
    (hs1 : starEach [e2] X.env = (false, eval e2 X.env) :: starEach [] X.env := by rfl) : MI B X (.Tuple elts kk tpos) (.Call (.Name "zip" p) [e, e2] [] pos) (mZipT Te Te2) :=
  pi_mono (RZ.pi_zipA hg hm (pa_cons ha (pa_cons hb pa_nil hs1) hs) hs hpl) fun σ H R ⟨τ, G, F, r, dj, rs, rb, h, c⟩ => ⟨τ, G, F, _, dj, rs, rb, h, fun v H1 ⟨w, G1, d1, k1, rg1, r1, h1⟩ => ⟨τ, G1, F, _, d1, rs.kp k1, rb.go k1 rg1, h1, fun v2 H2 ⟨w2, G2, d2, k2, rg2, r2, h2⟩ => by
    have r1' := r1.kp k2
    cases w with
    | tup ws =>
      cases w2 with
      | tup us =>
        obtain ⟨p, vs, rfl, ht, rl⟩ := r1'
        obtain ⟨p2, vs2, rfl, ht2, rl2⟩ := r2
        exact ⟨p, p2, vs, vs2, rfl, .inr ⟨ht.sq, ht2.sq, c _ H2 _ _ G2 d2 (k1.trans k2) rg2 (jm_zipT fun G' H' k => ⟨vs, vs2, (ht.keep k).sq, (ht2.keep k).sq, rl.kp k, rl2.kp k⟩) h2⟩⟩
      | _ => exact False.elim h2
    | lst ws =>
      cases w2 with
      | lst us =>
        obtain ⟨p, vs, rfl, ht, rl⟩ := r1'
        obtain ⟨p2, vs2, rfl, ht2, rl2⟩ := r2
        exact ⟨p, p2, vs, vs2, rfl, .inl ⟨ht.sq, ht2.sq, c _ H2 _ _ G2 d2 (k1.trans k2) rg2 (jm_zipL fun G' H' k => ⟨vs, vs2, (ht.keep k).sq, (ht2.keep k).sq, rl.kp k, rl2.kp k⟩) h2⟩⟩
      | _ => exact False.elim h2
    | _ => exact False.elim h2⟩⟩
end
end ML

set_option maxRecDepth 100000
namespace ML
open PySem PySem.Spec L2
open PyProof.Rows hiding St

/-! ### the ends of a law -/
theorem rm_caller {k : Nat} (h : Room k callerA) : Rm k callerA := ⟨h, rfl⟩
theorem rp_ints {K : PySem.W.Frag} {G : Gp} {H : Hp} : ∀ ns : List Int, RpL K G H (ns.map D.int) (ns.map V.int)
  | [] => .nil
  | n :: ns => .cons rfl (rp_ints ns)
theorem lawM {P : Program} {w : World} {K : PySem.W.Frag} {mg mb : Str → Option Value} {k : Nat} {fa a : Addr} {fd : FuncData} {x : Str} {sp : MSp} {s₁ : Shared} {vs : List Value} {ns : List Int}
    (KX : K.In s₁.heap) (hns : s₁.heap.Ns mainGlobals mg) (hb : s₁.heap.Ns builtinsNs mb) (hbb : ∀ x : Str, x ≠ "__name__" → mb x = bootBuiltins x) (hlim : s₁.heap.NoLimit) (hg : s₁.gens = #[])
    (ha : s₁.heap.get? a = some { cls := .type "list", data := .seq vs.toArray }) (hi : IntsAre vs ns) (hl : ns.length ≤ sizeLine) (hr : Rm k callerA)
    (F : ∀ base : Heap, K.In base → base.Ns mainGlobals mg → FnG P w K mg base k fa fd [x] sp) (hbind : ∀ (s : Shared) (u : Value), BindsTo s fd ⟨[u], []⟩ [(x, u)])
    (hsp : sp [.fz (ns.map D.int)] no (fun v _ => v = .bl true) noX) :
    codeAny (model P w) callerA (.call (.ref fa) ⟨[.ref a], []⟩) (fun r s' => r = .ok (.ret (.bool true)) ∧ OldK s₁.heap s'.heap ∧ s'.os = s₁.os ∧ AllBare s'.gens) s₁ := by
  have rv := vals_ints hi
  have lenV := hi.length
  obtain ⟨H, hH, hF⟩ : ∃ H : Hp, (∀ b u, H b = some u → b = a ∧ K.lookup a = none ∧ ∃ o, u = .frz o (.lst (ns.map V.int)) ∧ s₁.heap.get? a = some o) ∧ FzAt K no H a (ns.map V.int) := by
    cases hk : K.lookup a with
    | some o =>
      have e := KX a o hk
      rw [ha] at e
      cases e
      exact ⟨fun _ => none, fun b u z => (nomatch (show (none : Option HO) = some u from z)), .inr ⟨_, vs.toArray, _, hk, rfl, rfl, rfl, by rw [List.size_toArray, lenV]; exact hl, by simpa using rv⟩⟩
    | none =>
      refine ⟨fun b => if b = a then some (.frz { cls := .type "list", data := .seq vs.toArray } (.lst (ns.map V.int))) else none, fun b u z => ?_, .inl ⟨rfl, .inr ⟨{ cls := .type "list", data := .seq vs.toArray }, if_pos rfl⟩⟩⟩
      by_cases hb' : b = a
      · have z' := (if_pos hb').symm.trans z
        cases z'
        exact ⟨hb', rfl, _, rfl, ha⟩
      · have z' := (if_neg hb').symm.trans z
        cases z'
  have hok : HOk P w H s₁.heap := fun b u z => by
    obtain ⟨rfl, _, o, rfl, e⟩ := hH b u z
    rw [ha] at e
    cases e
    exact ⟨ha, by rw [List.length_map]; exact hl, vs, _, rv, ha⟩
  have free : ∀ {b : Addr} {o : Obj}, s₁.heap.get? b = some o → (b = a → K.lookup a = none → False) → (hidT s₁.heap H).get? b = some o := fun {b o} e n => hidT_get e (by
    cases q : H b with
    | none => rfl
    | some u => obtain ⟨e1, e2, _⟩ := hH b u q; exact (n e1 e2).elim)
  have nsK : ∀ {b : Addr} {m : Str → Option Value}, s₁.heap.Ns b m → (hidT s₁.heap H).Ns b m := fun {b m} ⟨o, es, ep, e, d, r⟩ => ⟨o, es, ep, free e (fun hb' _ => by
    subst hb'
    rw [ha] at e
    cases e
    have d' : Data.seq vs.toArray _ = Data.dict es ep := d
    cases d'), d, r⟩
  have hKb : K.In (hidT s₁.heap H) := fun b o e => free (KX b o e) fun hb' hk => by subst hb'; rw [hk] at e; cases e
  have hM : Mod K mg (hidT s₁.heap H) := ⟨hKb, nsK hns, ⟨mb, nsK hb, hbb⟩, let ⟨mc, h1, h2⟩ := hlim; ⟨mc, nsK h1, h2⟩⟩
  have e0 : Env0 P w K mg (hidT s₁.heap H) callerA [] s₁ H := ⟨rfl, hM, fun b o e => of_hidT e, Nat.le_of_eq (hidT_size _ _), trivial, fun b hb' => absurd (show b ∈ ([] : List Addr) from hb') (by simp), hok, .of_eq hg⟩
  have rg0 : RG K (jn no no) H := fun a o e => by rw [jn_no] at e; cases e
  have fz : Rp K (jn no no) H (.fz (ns.map D.int)) (.ref a) := ⟨a, ns.map V.int, rfl, by rw [jn_no]; exact hF, rp_ints ns⟩
  refine codeAny_mono ((F _ hKb (nsK hns)).run callerA [] s₁ H ⟨[.ref a], []⟩ [.ref a] [.ref a] [.fz (ns.map D.int)] no no _ noX hr e0 (hbind s₁ (.ref a)) (.cons rfl .nil) (dj_no no) rg0 (.cons fz .nil) hsp) fun r s' h => ?_
  cases r with
  | error e => obtain ⟨_, _, _, _, _, _, _, _, _, _, _, _, _, _, _, _, _, _, z⟩ := h; exact z.elim
  | ok fl =>
    cases fl with
    | next => exact False.elim h
    | brk => exact False.elim h
    | cont => exact False.elim h
    | ret u =>
      obtain ⟨v, H', os, bare, un, hok', r', q⟩ := h
      obtain ⟨wv, G', _, _, _, rw', ew⟩ := q
      subst ew
      cases (show v = .bl true from rw')
      obtain rfl : u = Value.bool true := r'
      refine ⟨rfl, OldK.of_keep fun b o e => ?_, os, bare⟩
      cases q : H b with
      | none => exact un.keep b o e q (by intro z; exact absurd (show b ∈ ([] : List Addr) from z) (by simp)) (by simp)
      | some u =>
        obtain ⟨rfl, _, ob, rfl, e3⟩ := hH b u q
        have z2 := un.frzs b ob _ q
        obtain ⟨e2, _⟩ := hok' b _ z2
        rw [e] at e3
        cases e3
        exact e2
theorem walkM {l : PySem.W.OpenLaw} {n k : Nat} {q : Program} {loose : List Str} {XP : (Str → Option Value) → Heap → Prop} {YP : World → Heap → Prop} {d : DefRec} {K : Params → PySem.W.Frag} {sp : MSp} {x : Str}
    (hn : l.most = some n) (hn2 : n ≤ sizeLine) (hdf : d.params.defaults = []) (hr : Room k callerA) (hY : ∀ (w : World) (h : Heap), YP w h → (K w.params).In h)
    (F : ∀ (w : World) (mg : Str → Option Value) (fa : Addr) (h : Heap), (K w.params).In h → h.Ns mainGlobals mg → mg d.name = some (.ref fa) →
      ∃ fd : FuncData, (∀ (s : Shared) (u : Value), BindsTo s fd ⟨[u], []⟩ [(x, u)]) ∧ ∀ base : Heap, (K w.params).In base → base.Ns mainGlobals mg → FnG l.prog w (K w.params) mg base k fa fd [x] sp)
    (hsp : ∀ ns : List Int, ns.length ≤ n → sp [.fz (ns.map D.int)] no (fun v _ => v = .bl true) noX) : PySem.W.WalkO q loose XP YP l.row.toRowW d [] (fun f vs => PySem.call f vs) := by
  refine Att.attach_call hn hdf fun w s₀ s₁ mg mb fa o pm cd doc a vs ns G Y ho hd hcd hmg hobj hints hlen hg => ?_
  have KX := hY w _ Y
  obtain ⟨fd, hb, hF⟩ := F w mg fa _ KX G.T.g hmg
  exact lawM KX G.T.g G.T.b G.T.builtins G.T.nolimit hg hobj hints (Nat.le_trans hlen hn2) (rm_caller hr) hF hb (hsp ns hlen)

/-! ### a def of the module -/
structure Df (K : PySem.W.Frag) (mg : Str → Option Value) (x : Str) (st : Stmt) (f : Addr) (fd : FuncData) (ps : List Str) : Prop where
  fn : Fun K x x st f fd
  mgx : mg x = some (.ref f)
  kp : PySem.W.keepIn K (.ref f) = true
  bd : Binds K fd ps []
end ML

set_option maxRecDepth 100000
namespace ML
open PySem PySem.Spec L2
open PyProof.Rows hiding St
theorem bb_len : bootBuiltins "len" = some (.builtin "len") := by first | exact PySem.boot_len | exact PyProof.Rows.boot_len
theorem bb_abs : bootBuiltins "abs" = some (.builtin "abs") := by first | exact PySem.boot_abs | exact PyProof.Rows.boot_abs
theorem bb_max : bootBuiltins "max" = some (.builtin "max") := by first | exact PySem.boot_max | exact PyProof.Rows.boot_max
theorem bb_min : bootBuiltins "min" = some (.builtin "min") := by first | exact PySem.boot_min | exact PyProof.Rows.boot_min
theorem bb_repr : bootBuiltins "repr" = some (.builtin "repr") := by first | exact PySem.boot_repr | exact PyProof.Rows.boot_repr
theorem bb_sum : bootBuiltins "sum" = some (.builtin "sum") := by first | exact PySem.boot_sum | exact PyProof.Rows.boot_sum
theorem bb_sorted : bootBuiltins "sorted" = some (.builtin "sorted") := by first | exact PySem.boot_sorted | exact PyProof.Rows.boot_sorted
theorem bb_any : bootBuiltins "any" = some (.builtin "any") := by first | exact PySem.boot_any | exact PyProof.Rows.boot_any
theorem bb_all : bootBuiltins "all" = some (.builtin "all") := by first | exact PySem.boot_all | exact PyProof.Rows.boot_all
theorem bb_int : bootBuiltins "int" = some (.type "int") := by first | exact PySem.boot_int | exact PyProof.Rows.boot_int
theorem bb_str : bootBuiltins "str" = some (.type "str") := by first | exact PySem.boot_str | exact PyProof.Rows.boot_str
theorem bb_list : bootBuiltins "list" = some (.type "list") := by first | exact PySem.boot_list | exact PyProof.Rows.boot_list
theorem bb_tuple : bootBuiltins "tuple" = some (.type "tuple") := by first | exact PySem.boot_tuple | exact PyProof.Rows.boot_tuple
/-! keywords in the order of the parameters -/
theorem kb_app {K : PySem.W.Frag} {x qual : Str} {st : Stmt} {f : Addr} {fd : FuncData} {ps ks : List Str} {n : Nat} (F : Fun K x qual st f fd)
    (h : ∀ (kV doc pm : Value) (an : Option Addr) (cdv ct : Value) (us ws : List Value), us.length = n → ws.length = ks.length → bindArgs (PySem.W.fnOf x qual (defArgs st) (defBody st) (defScope st) .none kV doc pm an cdv ct) ⟨us, ks.zip ws⟩ = pure (ps.zip (us ++ ws))) :
    KB K fd ps n ks (fun us ws => us ++ ws) (fun us ws => us ++ ws) (fun us ws => us ++ ws) := by
  obtain ⟨oc, od, kV, doc, pm, an, cdv, ct, osl, rfl, lk, hcd⟩ := F.ex
  exact ⟨⟨fun s us ws _ h1 h2 => .of_eq (h kV doc pm an cdv ct us ws h1 h2), fun a b => a.append b⟩, fun a b => a.append b⟩
theorem df_mk {K : PySem.W.Frag} {h : Heap} {mg : Str → Option Value} {x : Str} {st : Stmt} {f : Addr} {ps : List Str} {oc : Value} {od an : Option Addr} {osl : Array (Option Value)} {kV doc pm cdv ct : Value} (X : K.In h) (G : h.Ns mainGlobals mg)
    (a : PySem.W.nsIn K mainGlobals x = some (some (.ref f))) (l : K.lookup f = some ⟨oc, od, .func (PySem.W.fnOf x x (defArgs st) (defBody st) (defScope st) .none kV doc pm an cdv ct), osl⟩)
    (c : PySem.W.codeIn K cdv x = true) (k : PySem.W.keepIn K (.ref f) = true)
    (hb : ∀ (kV doc pm : Value) (an : Option Addr) (cdv ct : Value) (us : List Value), us.length = ps.length → bindArgs (PySem.W.fnOf x x (defArgs st) (defBody st) (defScope st) .none kV doc pm an cdv ct) ⟨us, []⟩ = pure (ps.zip us)) :
    Df K mg x st f (PySem.W.fnOf x x (defArgs st) (defBody st) (defScope st) .none kV doc pm an cdv ct) ps :=
  ⟨fun_mk l c k, PySem.W.mg_of X G a, k, (fun_mk l c k).binds hb⟩
end ML

set_option maxRecDepth 100000
namespace ML
open PySem PySem.Spec L2
open PyProof.Rows hiding St

/-! ### steps of a body, as equations -/
theorem mVar_eq {i : Nat} {τ : Sl} {G : Gp} {q : MK} {w : D} (h : τ[i]? = some (some w)) : mVar i τ G q = q w G := by
  unfold mVar
  rw [h]
  apply propext
  constructor
  · rintro ⟨u, e, z⟩; cases e; exact z
  · intro z; exact ⟨w, rfl, z⟩
theorem at3_0 {α : Type} (a b c : α) : atI [a, b, c] (0 : Int) = some a := rfl
theorem at3_1 {α : Type} (a b c : α) : atI [a, b, c] (1 : Int) = some b := rfl
theorem at3_2 {α : Type} (a b c : α) : atI [a, b, c] (2 : Int) = some c := rfl
theorem at_in {α : Type} {xs : List α} {i : Int} (h0 : 0 ≤ i) (h1 : i < xs.length) : ∃ w, atI xs i = some w ∧ w ∈ xs ∧ xs[i.toNat]? = some w := by
  have hl : i.toNat < xs.length := by omega
  refine ⟨xs[i.toNat], ?_, List.getElem_mem _, List.getElem?_eq_getElem hl⟩
  unfold atI ixN
  rw [if_pos h0, if_pos h1]
  exact List.getElem?_eq_getElem hl
theorem ixN_in {n : Nat} {i : Int} (h0 : 0 ≤ i) (h1 : i < n) : ixN n i = some i.toNat := by
  unfold ixN
  rw [if_pos h0, if_pos h1]
theorem seqIx_in {n : Nat} {i : Int} (h0 : 0 ≤ i) (h1 : i < n) : seqIndex? i n = some i.toNat := (ixN_seq (ixN_in h0 h1)).1

/-! ### == -/
mutual
theorem eqD_self : ∀ d : D, okD d = true → eqD d d = true
  | .non, _ => rfl
  | .bl b, _ => by unfold eqD; exact beq_self_eq_true b
  | .int i, _ => by unfold eqD; exact beq_self_eq_true i
  | .str x, _ => by unfold eqD; exact beq_self_eq_true x
  | .lst xs, h => by unfold eqD; exact eqDs_self xs (by simpa [okD] using h)
  | .tup xs, h => by unfold eqD; exact eqDs_self xs (by simpa [okD] using h)
  | .ref _, h => by simp [okD] at h
  | .ty _, h => by simp [okD] at h
  | .fz _, h => by simp [okD] at h
theorem eqDs_self : ∀ ds : List D, okDs ds = true → eqDs ds ds = true
  | [], _ => rfl
  | x :: xs, h => by
    rw [okDs_cons, Bool.and_eq_true] at h
    unfold eqDs
    rw [eqD_self x h.1, eqDs_self xs h.2]; rfl
end
theorem okDs_all : ∀ {ds : List D}, (∀ d ∈ ds, okD d = true) → okDs ds = true
  | [], _ => rfl
  | x :: xs, h => by rw [okDs_cons, h x List.mem_cons_self, okDs_all fun d hd => h d (List.mem_cons_of_mem _ hd)]; rfl
theorem deps_all {n : Nat} : ∀ {ds : List D}, (∀ d ∈ ds, dep d ≤ n) → deps ds ≤ n
  | [], _ => Nat.zero_le _
  | x :: xs, h => by
    unfold deps
    exact Nat.max_le.mpr ⟨h x List.mem_cons_self, deps_all fun d hd => h d (List.mem_cons_of_mem _ hd)⟩

/-! ### texts -/
theorem sok_append {a b : Str} (ha : PyData.strOk a = true) (hb : PyData.strOk b = true) : PyData.strOk (a ++ b) = true := by
  unfold PyData.strOk at *
  show ((a.cps ++ b.cps).all fun x => decide (x < 1114112)) = true
  rw [Array.all_append, ha, hb]; rfl
theorem sok_int (i : Int) : PyData.strOk (toString i) = true := by
  show PyData.strOk (Str.ofString (toString i)) = true
  unfold PyData.strOk
  rw [Str.ofString_eq_toList]
  show ((((toString i).toList.map Char.toNat).toArray).all fun x => decide (x < 1114112)) = true
  rw [List.all_toArray, List.all_eq_true]
  intro n hn
  obtain ⟨c, hc, rfl⟩ := List.mem_map.mp hn
  have := int_ascii i c hc
  simp only [decide_eq_true_eq]
  omega
theorem join_eq (a : Str) (ys : List Str) : Txt.join a ys = Str.join a ys := StrLaws.glued_eq_join a ys
theorem sok_join {a : Str} (ha : PyData.strOk a = true) : ∀ {ys : List Str}, (∀ y ∈ ys, PyData.strOk y = true) → PyData.strOk (Txt.join a ys) = true := by
  intro ys h
  rw [join_eq]
  induction ys with
  | nil =>
    show PyData.strOk Str.empty = true
    simp [PyData.strOk, Str.empty]
  | cons x r ih =>
    cases r with
    | nil => exact h x List.mem_cons_self
    | cons y r =>
      show PyData.strOk (x ++ a ++ Str.join a (y :: r)) = true
      exact sok_append (sok_append (h x List.mem_cons_self) ha) (ih fun z hz => h z (List.mem_cons_of_mem _ hz))
theorem sum_le {α : Type} {f : α → Nat} {n : Nat} : ∀ {xs : List α}, (∀ x ∈ xs, f x ≤ n) → (xs.map f).sum ≤ xs.length * n
  | [], _ => Nat.zero_le _
  | x :: xs, h => by
    rw [List.map_cons, List.sum_cons, List.length_cons, Nat.succ_mul]
    have := h x List.mem_cons_self
    have := sum_le fun y hy => h y (List.mem_cons_of_mem _ hy)
    omega
theorem join_len {a : Str} {ys : List Str} {n : Nat} (h : ∀ y ∈ ys, y.length ≤ n) : (Txt.join a ys).length ≤ ys.length * (n + a.length) := by
  rw [join_eq]
  have h1 := StrLaws.join_length_le a ys
  have h2 : (ys.map (fun x => x.length)).sum ≤ ys.length * n := sum_le h
  rw [Nat.mul_add]
  omega
theorem int_len {i : Int} (h0 : 0 ≤ i) (h1 : i ≤ 10 ^ 30) : (toString i : Str).length ≤ 31 := toString_length_le h0 (by decide) (Int.lt_of_le_of_lt h1 (by decide))
theorem int_log {i : Int} (h0 : 0 ≤ i) (h1 : i ≤ 10 ^ 30) : i.natAbs.log2 < 1920 := by
  have h : i.natAbs ≤ 10 ^ 30 := by omega
  by_cases hz : i.natAbs = 0
  · rw [hz]; decide
  · rw [Nat.log2_lt hz]
    exact Nat.lt_of_le_of_lt h (by decide +kernel)
theorem int_pos (i : Int) : 0 < (toString i : Str).length := by
  show 0 < (Str.ofString (toString i)).length
  rw [PySem.ofString_length]
  have : (toString i).toList ≠ [] := by
    rw [Int.toString_eq_repr, Int.repr_eq_if]
    split
    · rw [Nat.toList_repr]; exact Nat.toDigits_ne_nil
    · rw [String.toList_append]; simp
  rw [← String.length_toList]
  exact List.length_pos_iff.mpr this

/-! ### data of numbers: what repr shows is short -/
mutual
def okI : D → Bool
  | .non | .bl _ => true
  | .int i => decide (0 ≤ i) && decide (i ≤ 10 ^ 30)
  | .lst xs | .tup xs => okIs xs
  | _ => false
def okIs : List D → Bool
  | [] => true
  | x :: xs => okI x && okIs xs
end
theorem okIs_cons {x : D} {xs : List D} : okIs (x :: xs) = (okI x && okIs xs) := rfl
theorem okIs_all : ∀ {ds : List D}, (∀ d ∈ ds, okI d = true) → okIs ds = true
  | [], _ => rfl
  | x :: xs, h => by rw [okIs_cons, h x List.mem_cons_self, okIs_all fun d hd => h d (List.mem_cons_of_mem _ hd)]; rfl
mutual
theorem okI_ok : ∀ d : D, okI d = true → okD d = true ∧ (pd d).showable = true ∧ (pd d).hasDict = false ∧ (pd d).leavesShort 33 = true ∧ (pd d).depth ≤ dep d
  | .non, _ => ⟨rfl, rfl, rfl, rfl, Nat.le_refl _⟩
  | .bl b, _ => ⟨rfl, rfl, rfl, rfl, Nat.le_refl _⟩
  | .int i, h => by
    have h' : 0 ≤ i ∧ i ≤ 10 ^ 30 := by simpa [okI] using h
    refine ⟨rfl, ?_, rfl, ?_, Nat.le_refl _⟩
    · show decide (i.natAbs.log2 < 1920) = true
      exact decide_eq_true (int_log h'.1 h'.2)
    · show decide ((PyData.shown (.int i)).length ≤ 33) = true
      have : (toString i : Str).length ≤ 31 := int_len h'.1 h'.2
      exact decide_eq_true (Nat.le_trans this (by decide))
  | .lst xs, h => by
    obtain ⟨a, b, c, d, e⟩ := okIs_ok xs (by simpa [okI] using h)
    exact ⟨by simpa [okD] using a, by simpa [pd, PyData.showable] using b, by simpa [pd, PyData.hasDict] using c, by simpa [pd, PyData.leavesShort] using d, by simp only [pd, PyData.depth, dep]; omega⟩
  | .tup xs, h => by
    obtain ⟨a, b, c, d, e⟩ := okIs_ok xs (by simpa [okI] using h)
    exact ⟨by simpa [okD] using a, by simpa [pd, PyData.showable] using b, by simpa [pd, PyData.hasDict] using c, by simpa [pd, PyData.leavesShort] using d, by simp only [pd, PyData.depth, dep]; omega⟩
  | .str _, h => by simp [okI] at h
  | .ref _, h => by simp [okI] at h
  | .ty _, h => by simp [okI] at h
  | .fz _, h => by simp [okI] at h
theorem okIs_ok : ∀ ds : List D, okIs ds = true → okDs ds = true ∧ PyData.showableAll (pds ds) = true ∧ PyData.hasDictAll (pds ds) = false ∧ PyData.leavesShortAll 33 (pds ds) = true ∧ PyData.depthAll (pds ds) ≤ deps ds
  | [], _ => ⟨rfl, rfl, rfl, rfl, Nat.le_refl _⟩
  | x :: xs, h => by
    rw [okIs_cons, Bool.and_eq_true] at h
    obtain ⟨a, b, c, d, e⟩ := okI_ok x h.1
    obtain ⟨a', b', c', d', e'⟩ := okIs_ok xs h.2
    refine ⟨by rw [okDs_cons, a, a']; rfl, ?_, ?_, ?_, ?_⟩
    · simp only [pds, PyData.showableAll, b, b']; rfl
    · simp only [pds, PyData.hasDictAll, c, c']; rfl
    · simp only [pds, PyData.leavesShortAll, d, d']; rfl
    · simp only [pds, PyData.depthAll, deps]; omega
end
/-- how much of it there is -/
def wtD (d : D) : Nat := (pd d).weight
theorem wts_le {n : Nat} : ∀ {ds : List D}, (∀ d ∈ ds, wtD d ≤ n) → PyData.weightAll (pds ds) ≤ ds.length * (n + 1)
  | [], _ => Nat.zero_le _
  | x :: xs, h => by
    simp only [pds, PyData.weightAll, List.length_cons, Nat.succ_mul]
    have h1 := h x List.mem_cons_self
    have h2 := wts_le fun y hy => h y (List.mem_cons_of_mem _ hy)
    unfold wtD at h1
    omega
theorem wt_tup {n : Nat} {ds : List D} (h : ∀ d ∈ ds, wtD d ≤ n) : wtD (.tup ds) ≤ ds.length * (n + 1) := by
  have := wts_le h
  show (pd (.tup ds)).weight ≤ _
  simpa [pd, PyData.weight] using this
theorem wt_lst {n : Nat} {ds : List D} (h : ∀ d ∈ ds, wtD d ≤ n) : wtD (.lst ds) ≤ ds.length * (n + 1) := by
  have := wts_le h
  show (pd (.lst ds)).weight ≤ _
  simpa [pd, PyData.weight] using this
theorem repr_ok {xs : List D} (h : okI (.tup xs) = true) (hd : dep (.tup xs) ≤ 60) (hw : wtD (.tup xs) ≤ 400000) :
    okD (.tup xs) = true ∧ dep (.tup xs) ≤ 60 ∧ (pd (.tup xs)).showable = true ∧ (pd (.tup xs)).hasDict = false ∧ (pd (.tup xs)).depth ≤ 60 ∧ (pd (.tup xs)).shown.length ≤ sizeLine := by
  obtain ⟨a, b, c, d, e⟩ := okI_ok _ h
  refine ⟨a, hd, b, c, Nat.le_trans e hd, ?_⟩
  have := PyData.shown_le 33 (by decide) _ d
  unfold wtD at hw
  rw [sizeLine_eq]
  omega

/-! ### states -/
theorem sub_put {G G' : Gp} {a : Addr} {o : MO} (h : Sub G G') : Sub (put G a o) (put G' a o) := fun b u e => by
  by_cases hb : b = a
  · subst hb; rw [put_same] at e ⊢; exact e
  · rw [put_ne hb] at e ⊢; exact h b u e
theorem less_of {q : MK} {w : D} {G G' : Gp} (s : Sub G G') (h : q w G) : less q w G' := ⟨G, s, h⟩
theorem less_here {q : MK} {w : D} {G : Gp} (h : q w G) : less q w G := ⟨G, Sub.refl G, h⟩
theorem ne_of_fresh {G : Gp} {a p : Addr} {o : MO} (h : G a = some o) (hp : G p = none) : a ≠ p := by rintro rfl; rw [h] at hp; cases hp

/-! ### loops: an invariant over the turns -/
theorem loop_ind {alive : Gp → Prop} {g : GT} {T : TSm} {d : Em} {ws : List D} (I : Nat → Sl → Gp → Prop)
    (hs : ∀ (i : Nat) (w : D) (τ : Sl) (G : Gp) (N : Sl → Gp → Prop), ws[i]? = some w → I i τ G → (∀ τ' G', I (i + 1) τ' G' → N τ' G') → alive G ∧ g.run w G τ (T { d with nx := N, ct := N, bk := d.nx }))
    (he : ∀ τ G, I ws.length τ G → alive G ∧ d.nx τ G) {τ : Sl} {G : Gp} (h0 : I 0 τ G) : mLoop alive g T d ws τ G := by
  have key : ∀ (n : Nat) (i : Nat), i + n = ws.length → ∀ τ G, I i τ G → mLoop alive g T d (ws.drop i) τ G := by
    intro n
    induction n with
    | zero =>
      intro i hi τ G h
      have e : i = ws.length := by omega
      subst e
      rw [List.drop_length]
      exact he τ G h
    | succ n ih =>
      intro i hi τ G h
      have hlt : i < ws.length := by omega
      rw [List.drop_eq_getElem_cons hlt]
      exact hs i ws[i] τ G _ (List.getElem?_eq_getElem hlt) h fun τ' G' h' => ih (i + 1) (by omega) τ' G' h'
  have := key ws.length 0 (by omega) τ G h0
  rwa [List.drop_zero] at this
theorem comp_ind {alive : Gp → Prop} {g : GT} {tt : TTm} {Te : TEm} {τ0 : Sl} {ws : List D} {q : List D → Gp → Prop} (I : Nat → List D → Gp → Prop)
    (hs : ∀ (i : Nat) (w : D) (acc : List D) (G : Gp) (N : List D → Gp → Prop), ws[i]? = some w → I i acc G → (∀ acc' G', I (i + 1) acc' G' → N acc' G') → alive G ∧ g.run w G τ0 fun τ2 G2 => tt τ2 G2 fun b G3 => match b with
      | true => Te τ2 G3 fun y G4 => acc.length < sizeLine ∧ N (acc ++ [y]) G4
      | false => N acc G3)
    (he : ∀ acc G, I ws.length acc G → alive G ∧ q acc G) {G : Gp} (h0 : I 0 [] G) : mComp alive g tt Te τ0 ws [] G q := by
  have key : ∀ (n : Nat) (i : Nat), i + n = ws.length → ∀ acc G, I i acc G → mComp alive g tt Te τ0 (ws.drop i) acc G q := by
    intro n
    induction n with
    | zero =>
      intro i hi acc G h
      have e : i = ws.length := by omega
      subst e
      rw [List.drop_length]
      exact he acc G h
    | succ n ih =>
      intro i hi acc G h
      have hlt : i < ws.length := by omega
      rw [List.drop_eq_getElem_cons hlt]
      exact hs i ws[i] acc G (fun acc G => mComp alive g tt Te τ0 (ws.drop (i + 1)) acc G q) (List.getElem?_eq_getElem hlt) h fun acc' G' h' => ih (i + 1) (by omega) acc' G' h'
  have := key ws.length 0 (by omega) [] G h0
  rwa [List.drop_zero] at this
/-- each item by itself, the state as it was -/
theorem comp_map {alive : Gp → Prop} {g : GT} {Te : TEm} {τ0 : Sl} {ws : List D} {q : List D → Gp → Prop} {G : Gp} (f : D → D) (hl : ws.length < sizeLine) (al : alive G)
    (hs : ∀ (w : D) (r : MK), w ∈ ws → r (f w) G → g.run w G τ0 fun τ2 G2 => Te τ2 G2 r) (he : q (ws.map f) G) : mComp alive g mYes Te τ0 ws [] G q := by
  refine comp_ind (fun i acc G' => G' = G ∧ acc = (ws.take i).map f) (fun i w acc G' N hw ⟨e1, e2⟩ hN => ?_) (fun acc G' ⟨e1, e2⟩ => ?_) ⟨rfl, by rw [List.take_zero]; rfl⟩
  · subst e1
    refine ⟨al, hs w _ (List.mem_of_getElem? hw) ?_⟩
    have hi := (List.getElem?_eq_some_iff.mp hw).1
    refine ⟨by rw [e2, List.length_map, List.length_take]; omega, hN _ _ ⟨rfl, ?_⟩⟩
    rw [e2, List.take_add_one, hw, Option.toList_some, List.map_append]; rfl
  · subst e1
    refine ⟨al, ?_⟩
    rw [e2, List.take_length]; exact he
end ML

set_option maxRecDepth 100000
namespace ML
open PySem PySem.Spec L2
open PyProof.Rows hiding St
section
variable {G : Gp} {q : MK} {τ : Sl} {own : Bool} {xs ys : List D} {i j : Int} {a : Addr} {z z' : Str} {x y w : D} {b c : Bool}
theorem e_ix_tup : mIx (.tup xs) (.int i) G q = ∃ w, atI xs i = some w ∧ q w G := rfl
theorem e_ix_lst : mIx (.lst xs) (.int i) G q = ∃ ys w, LstOf G (.lst xs) ys ∧ atI ys i = some w ∧ q w G := rfl
theorem e_ix_fz : mIx (.fz xs) (.int i) G q = ∃ ys w, LstOf G (.fz xs) ys ∧ atI ys i = some w ∧ q w G := rfl
theorem e_ix_ref : mIx (.ref a) (.int i) G q = ∃ ys w, LstOf G (.ref a) ys ∧ atI ys i = some w ∧ q w G := rfl
theorem e_lo_lst : LstOf G (.lst xs) ys = (ys = xs) := rfl
theorem e_lo_fz : LstOf G (.fz xs) ys = (ys = xs) := rfl
theorem e_lo_ref : LstOf G (.ref a) ys = (G a = some (.lst ys)) := rfl
theorem e_so_lst : SeqOf G (.lst xs) ys = (ys = xs) := rfl
theorem e_so_fz : SeqOf G (.fz xs) ys = (ys = xs) := rfl
theorem e_so_tup : SeqOf G (.tup xs) ys = (ys = xs) := rfl
theorem e_so_ref : SeqOf G (.ref a) ys = (G a = some (.lst ys)) := rfl
theorem e_hd_lst : HdOf G (.lst xs) ys = (ys = xs) := rfl
theorem e_hd_ref : HdOf G (.ref a) ys = (G a = some (.lst ys)) := rfl
theorem e_add_int : mAdd own (.int i) (.int j) G q = q (.int (i + j)) G := rfl
theorem e_add_str : mAdd own (.str z) (.str z') G q = (z.length + z'.length ≤ sizeLine ∧ q (.str (z ++ z')) G) := rfl
theorem e_add_tup : mAdd own (.tup xs) (.tup ys) G q = (xs.length + ys.length ≤ sizeLine ∧ q (.tup (xs ++ ys)) G) := rfl
theorem e_add_lst : mAdd own (.lst xs) (.lst ys) G q = ∃ us vs, HdOf G (.lst xs) us ∧ HdOf G (.lst ys) vs ∧ us.length + vs.length ≤ sizeLine ∧ newL own (us ++ vs) G q := rfl
theorem e_sub_int : mSub (.int i) (.int j) G q = q (.int (i - j)) G := rfl
theorem e_mul_int : mMul own (.int i) (.int j) G q = ((CMul i j ∨ CMulW i j) ∧ q (.int (i * j)) G) := rfl
theorem e_mul_lst : mMul own (.lst xs) (.int j) G q = ∃ us, HdOf G (.lst xs) us ∧ (-(2 ^ 63) ≤ j ∧ j < 2 ^ 63 ∧ us.length * j.toNat ≤ sizeLine) ∧ newL own (List.replicate j.toNat us).flatten G q := rfl
theorem e_mul_tup : mMul own (.tup xs) (.int j) G q = ((xs ≠ [] ∧ 2 ≤ j ∧ j ≤ 1000 ∧ xs.length ≤ 1000) ∧ q (.tup (List.replicate j.toNat xs).flatten) G) := rfl
theorem e_mod_int : mMod (.int i) (.int j) G q = (0 < j ∧ q (.int (i % j)) G) := rfl
theorem e_fdv_int : mFdv (.int i) (.int j) G q = (CDivW i j ∧ q (.int (i / j)) G) := rfl
theorem e_pow_int : mPow (.int i) (.int j) G q = (CPow i j ∧ q (.int (i ^ j.toNat)) G) := rfl
theorem e_lt_int : mLt (.int i) (.int j) G q = q (.bl (decide (i < j))) G := rfl
theorem e_le_int : mLe (.int i) (.int j) G q = q (.bl (decide (i ≤ j))) G := rfl
theorem e_gt_int : mGt (.int i) (.int j) G q = q (.bl (decide (j < i))) G := rfl
theorem e_ge_int : mGe (.int i) (.int j) G q = q (.bl (decide (j ≤ i))) G := rfl
theorem e_eq_int : mEq (.int i) (.int j) G q = q (.bl (decide (i = j))) G := rfl
theorem e_ne_int : mNe (.int i) (.int j) G q = q (.bl (!decide (i = j))) G := rfl
theorem e_eq_str : mEq (.str z) (.str z') G q = q (.bl (decide (z = z'))) G := rfl
theorem e_ne_str : mNe (.str z) (.str z') G q = q (.bl (!decide (z = z'))) G := rfl
theorem e_isN : mIsN x .non G q = q (.bl (isN x)) G := rfl
theorem e_notN : mNotN x .non G q = q (.bl (!isN x)) G := rfl
theorem e_isN_non : isN .non = true := rfl
theorem e_isN_int : isN (.int i) = false := rfl
theorem e_isN_tup : isN (.tup xs) = false := rfl
theorem e_isN_str : isN (.str z) = false := rfl
theorem e_isN_ref : isN (.ref a) = false := rfl
theorem e_isN_lst : isN (.lst xs) = false := rfl
theorem e_abs : mAbs [.int i] G q = q (.int (if i < 0 then -i else i)) G := rfl
theorem e_max2 : mMax2 [.int i, .int j] G q = q (.int (if j > i then j else i)) G := rfl
theorem e_min2 : mMin2 [.int i, .int j] G q = q (.int (if j < i then j else i)) G := rfl
theorem e_int_int : mInt [.int i] G q = q (.int i) G := rfl
theorem e_int_bl : mInt [.bl b] G q = q (.int (if b then 1 else 0)) G := rfl
theorem e_str_int : mStr [.int i] G q = (i.natAbs.log2 < 1920 ∧ q (.str (toString i)) G) := rfl
theorem e_str_str : mStr [.str z] G q = q (.str z) G := rfl
theorem e_str_non : mStr [.non] G q = q (.str "None") G := rfl
theorem e_len_str : mLen [.str z] G q = (z.length ≤ sizeLine ∧ q (.int (z.length : Int)) G) := rfl
theorem e_len_tup : mLen [.tup xs] G q = ∃ ys, SeqOf G (.tup xs) ys ∧ q (.int (ys.length : Int)) G := rfl
theorem e_len_lst : mLen [.lst xs] G q = ∃ ys, SeqOf G (.lst xs) ys ∧ q (.int (ys.length : Int)) G := rfl
theorem e_len_fz : mLen [.fz xs] G q = ∃ ys, SeqOf G (.fz xs) ys ∧ q (.int (ys.length : Int)) G := rfl
theorem e_len_ref : mLen [.ref a] G q = ∃ ys, SeqOf G (.ref a) ys ∧ q (.int (ys.length : Int)) G := rfl
theorem e_list_tup : mList own [.tup xs] G q = ∃ ys, SeqOf G (.tup xs) ys ∧ newL own ys G q := rfl
theorem e_list_lst : mList own [.lst xs] G q = ∃ ys, SeqOf G (.lst xs) ys ∧ newL own ys G q := rfl
theorem e_list_fz : mList own [.fz xs] G q = ∃ ys, SeqOf G (.fz xs) ys ∧ newL own ys G q := rfl
theorem e_list_ref : mList own [.ref a] G q = ∃ ys, SeqOf G (.ref a) ys ∧ newL own ys G q := rfl
theorem e_tupl_tup : mTupl [.tup xs] G q = ∃ ys, SeqOf G (.tup xs) ys ∧ q (.tup ys) G := rfl
theorem e_tupl_lst : mTupl [.lst xs] G q = ∃ ys, SeqOf G (.lst xs) ys ∧ q (.tup ys) G := rfl
theorem e_tupl_ref : mTupl [.ref a] G q = ∃ ys, SeqOf G (.ref a) ys ∧ q (.tup ys) G := rfl
theorem e_newT : newL true xs G q = ∀ p, G p = none → q (.ref p) (put G p (.lst xs)) := rfl
theorem e_newF : newL false xs G q = q (.lst xs) G := rfl
theorem e_run_nm {i : Nat} {q : Sl → Gp → Prop} : GT.run (.nm i) w G τ q = q (τ.set i (some w)) G := rfl
theorem e_run_tp {gs : List GT} {q : Sl → Gp → Prop} : GT.run (.tp gs) (.tup xs) G τ q = GT.runs gs xs G τ q := by simp only [GT.run]
theorem e_runs_nil {q : Sl → Gp → Prop} : GT.runs [] [] G τ q = q τ G := by simp only [GT.runs]
theorem e_runs_cons {g : GT} {gs : List GT} {q : Sl → Gp → Prop} : GT.runs (g :: gs) (x :: xs) G τ q = g.run x G τ fun τ' G' => GT.runs gs xs G' τ' q := by simp only [GT.runs]
theorem e_tru_bl {q : Bool → Gp → Prop} : mTru (.bl b) G q = q b G := rfl
theorem e_tru_int {q : Bool → Gp → Prop} : mTru (.int i) G q = q (i != 0) G := rfl
theorem e_tru_str {q : Bool → Gp → Prop} : mTru (.str z) G q = (z.length ≤ sizeLine ∧ q ((z.length : Int) != 0) G) := rfl
theorem e_tru_lst {q : Bool → Gp → Prop} : mTru (.lst xs) G q = q (!xs.isEmpty) G := rfl
theorem e_tru_tup {q : Bool → Gp → Prop} : mTru (.tup xs) G q = q (!xs.isEmpty) G := rfl
theorem e_ty_str {T : String} : tyD T (.str z) G = (T = "str") := rfl
theorem e_ty_lst {T : String} : tyD T (.lst xs) G = (T = "list") := rfl
theorem e_ty_ref {T : String} : tyD T (.ref a) G = (T = "list" ∧ ∃ xs, G a = some (.lst xs)) := rfl
theorem e_append : mAppend (.ref a) [y] G q = ∃ xs, G a = some (.lst xs) ∧ xs.length < sizeLine ∧ q .non (put G a (.lst (xs ++ [y]))) := rfl
theorem e_insert : mInsert (.ref a) [.int i, y] G q = ∃ xs, G a = some (.lst xs) ∧ xs.length < sizeLine ∧ 0 ≤ i ∧ i < 2 ^ 63 ∧ q .non (put G a (.lst (xs.take i.toNat ++ [y] ++ xs.drop i.toNat))) := rfl
theorem e_popAt : mPopAt (.ref a) [.int i] G q = ∃ xs k y, G a = some (.lst xs) ∧ -(2 ^ 63) ≤ i ∧ i < 2 ^ 63 ∧ seqIndex? i xs.length = some k ∧ xs[k]? = some y ∧ q y (put G a (.lst (xs.eraseIdx k))) := rfl
theorem e_pop0 : mPop0 (.ref a) [] G q = ∃ xs y, G a = some (.lst xs) ∧ xs[xs.length - 1]? = some y ∧ q y (put G a (.lst xs.dropLast)) := rfl
theorem e_join : mJoin (.str z) [x] G q = ∃ xs ys, SeqOf G x xs ∧ strsOf xs = some ys ∧ (ys.map (·.length)).sum + ys.length * z.length ≤ 16777216 ∧ q (.str (Txt.join z ys)) G := rfl
theorem e_seqI_val {Ta : TEm} {r : List D → (Gp → Prop) → Gp → Prop} : mSeqI Ta τ G r = Ta τ G fun x G1 => match x with
  | .tup ws => r ws (fun _ => True) G1
  | .lst ws => r ws (fun _ => True) G1
  | .fz ws => r ws (fun _ => True) G1
  | .str z => r (z.cps.toList.map fun c => .str ⟨#[c]⟩) (fun _ => True) G1
  | .ref a => ∃ ws, G1 a = some (.lst ws) ∧ r ws (fun G => G a = some (.lst ws)) G1
  | _ => False := rfl
theorem e_cut_str {lo hi : Option Int} : mCut own (.str z) lo hi G q = (z.length ≤ sizeLine ∧ q (.str (cutS z lo hi)) G) := rfl
theorem e_cut_tup {lo hi : Option Int} : mCut own (.tup xs) lo hi G q = q (.tup (cutD xs lo hi)) G := rfl
theorem e_cut_lst {lo hi : Option Int} : mCut own (.lst xs) lo hi G q = ∃ ys, LstOf G (.lst xs) ys ∧ newL own (cutD ys lo hi) G q := rfl
theorem e_cut_fz {lo hi : Option Int} : mCut own (.fz xs) lo hi G q = ∃ ys, LstOf G (.fz xs) ys ∧ newL own (cutD ys lo hi) G q := rfl
theorem e_cut_ref {lo hi : Option Int} : mCut own (.ref a) lo hi G q = ∃ ys, LstOf G (.ref a) ys ∧ newL own (cutD ys lo hi) G q := rfl
theorem cutD_to (xs : List D) (n : Nat) : cutD xs none (some (n : Int)) = xs.take n := by
  unfold cutD
  rw [show HT.sIx xs.length 0 none = 0 from HT.sIx_none .., show HT.sIx xs.length xs.length (some (n : Int)) = min n xs.length from HT.sIx_nat ..]
  rw [List.drop_zero, Nat.sub_zero]
  rcases Nat.le_total n xs.length with h | h
  · rw [Nat.min_eq_left h]
  · rw [Nat.min_eq_right h, List.take_length, List.take_of_length_le h]
/-- == of values -/
theorem ne_val (hx : eqS x y = none) (h1 : okD x = true) (h2 : okD y = true) (d1 : dep x ≤ 64) (d2 : dep y ≤ 64) (sx : Sees G x x) (sy : Sees G y y) (h : q (.bl (!eqD x y)) G) : mNe x y G q := by
  unfold mNe cmpEq
  rw [hx]
  exact ⟨x, y, sx, sy, h1, h2, d1, d2, h⟩
theorem eq_val (hx : eqS x y = none) (h1 : okD x = true) (h2 : okD y = true) (d1 : dep x ≤ 64) (d2 : dep y ≤ 64) (sx : Sees G x x) (sy : Sees G y y) (h : q (.bl (eqD x y)) G) : mEq x y G q := by
  unfold mEq cmpEq
  rw [hx]
  exact ⟨x, y, sx, sy, h1, h2, d1, d2, h⟩
end
end ML

set_option maxRecDepth 100000
namespace Q81
open PySem PySem.Spec L2 ML
open PyProof.Rows hiding St
/-! ### the pen -/
def PenO (cells : List Int) (k rest : Int) : MO := .lst [.lst (cells.map D.int), .int k, .int rest]
/-- drawn at most m times -/
def Pen (m : Nat) (o : MO) : Prop := ∃ cells k rest, o = PenO cells k rest ∧ cells.length ≤ 63 ∧ 0 ≤ k ∧ k ≤ (m : Int)
theorem Pen.mono {m n : Nat} {o : MO} (h : Pen m o) (l : m ≤ n) : Pen n o := let ⟨c, k, r, e, a, b, d⟩ := h; ⟨c, k, r, e, a, b, by omega⟩
/-- an entry: none, or a number below n -/
def RefOk (n : Nat) (x : D) : Prop := x = .non ∨ ∃ i : Int, x = .int i ∧ 0 ≤ i ∧ i < n
def RowOk (L : Nat) (P : D → Prop) (row : List D) : Prop := row.length ≤ L ∧ ∀ x ∈ row, P x
def RowsAt (L : Nat) (P : D → Prop) (as : List Addr) (G : Gp) : Prop := ∀ b ∈ as, ∃ row, G b = some (.lst row) ∧ RowOk L P row
/-- numbers below n -/
def NumsIn (n : Nat) (is : List Int) : Prop := ∀ i ∈ is, 0 ≤ i ∧ i < (n : Int)
def SlotOk (x : D) : Prop := x = .non ∨ ∃ row, x = .tup row ∧ RowOk 90 (RefOk 90) row
def OutOk (x : D) : Prop := ∃ i : Int, x = .int i ∧ 0 ≤ i ∧ i ≤ 9
def HeapOk (slots outs : List D) : Prop := slots.length = outs.length ∧ slots.length ≤ 90 ∧ (∀ x ∈ slots, SlotOk x) ∧ ∀ x ∈ outs, OutOk x
/-- numbers that are not great -/
def NumOk (x : D) : Prop := ∃ i : Int, x = .int i ∧ 0 ≤ i ∧ i ≤ 10 ^ 30
def NumsOk (xs : List D) : Prop := xs.length ≤ 90 ∧ ∀ x ∈ xs, NumOk x
/-- a row of a tree: small numbers -/
def TreeRow (x : D) : Prop := ∃ row, x = .tup row ∧ NumsOk row ∧ ∀ y ∈ row, ∃ i : Int, y = .int i ∧ 0 ≤ i ∧ i ≤ 1000
def TreeOk (x : D) : Prop := ∃ rows, x = .tup rows ∧ rows.length ≤ 90 ∧ ∀ r ∈ rows, TreeRow r
def HomeOk (x : D) : Prop := ∃ slots outs, x = .tup [.tup slots, .tup outs] ∧ HeapOk slots outs
def SomeOk (x : D) : Prop := ∃ xs, (x = .tup xs ∨ x = .lst xs) ∧ NumsOk xs
/-! ### the texts -/
def cell (x : D) : Str := match x with
  | .int i => toString i
  | _ => "-"
def lineT (row out : D) : Str := match row with
  | .tup xs => Txt.join " " (cell out :: xs.map cell)
  | _ => "free"
def heapT (slots outs : List D) : Str := Txt.join "\n" (List.zipWith lineT slots outs)
def numsT (xs : List D) : Str := if xs = [] then "-" else Txt.join " " (xs.map cell)
def numsR (x : D) : Str := match x with
  | .tup xs => numsT xs
  | _ => "-"
def treeT (rows : List D) : Str := Txt.join "\n" (rows.map numsR)
/-! ### the promises -/
def p_joined (x : D) (G : Gp) (q : MK) : Prop := ∃ xs, (x = .tup xs ∨ x = .lst xs) ∧ NumsOk xs ∧ q (.str (numsT xs)) G
def p_line_of (x y : D) (G : Gp) (q : MK) : Prop := SlotOk x ∧ OutOk y ∧ q (.str (lineT x y)) G
def p_format_heap (x : D) (G : Gp) (q : MK) : Prop := ∃ slots outs, x = .tup [.tup slots, .tup outs] ∧ HeapOk slots outs ∧ q (.str (heapT slots outs)) G
def p_format_tree (x : D) (G : Gp) (q : MK) : Prop := ∃ rows, x = .tup rows ∧ TreeOk x ∧ q (.str (treeT rows)) G
def p_format_log (x : D) (G : Gp) (q : MK) : Prop := p_joined x G q
def p_pen (x : D) (G : Gp) (q : MK) : Prop := ∃ ns : List Int, x = .fz (ns.map D.int) ∧ ∀ a o, G a = none → Pen 0 o → q (.ref a) (put G a o)
def p_draw (x y : D) (G : Gp) (q : MK) : Prop := ∃ a b m o, x = .ref a ∧ y = .int b ∧ 1 ≤ b ∧ b ≤ 10 ^ 30 ∧ G a = some o ∧ Pen m o ∧ m ≤ 100000 ∧ ∀ r o', 0 ≤ r → r < b → Pen (m + 1) o' → q (.int r) (put G a o')
def p_order (x y : D) (G : Gp) (q : MK) : Prop := ∃ a n m o, x = .ref a ∧ y = .int (n : Nat) ∧ n ≤ 1000 ∧ G a = some o ∧ Pen m o ∧ m + n ≤ 100000 ∧
  ∀ is o', is.length = n → NumsIn n is → Pen (m + n) o' → q (.lst (is.map D.int)) (put G a o')
def p_size (x y : D) (G : Gp) (q : MK) : Prop := ∃ a n m o, x = .ref a ∧ y = .int (n : Nat) ∧ 1 ≤ n ∧ n ≤ 40 ∧ G a = some o ∧ Pen m o ∧ m + 4 ≤ 100000 ∧
  ∀ (r : Nat) o', 1 ≤ r → r ≤ n → Pen (m + 4) o' → q (.int (r : Nat)) (put G a o')
def p_links (x y : D) (G : Gp) (q : MK) : Prop := ∃ a n m o, x = .ref a ∧ y = .int (n : Nat) ∧ 1 ≤ n ∧ n ≤ 40 ∧ G a = some o ∧ Pen m o ∧ m + 1000 ≤ 100000 ∧
  ∀ as G', as.length = n → a ∉ as → (∀ b ∈ as, G b = none) → RowsAt 90 (RefOk n) as G' → (∃ o', G' a = some o' ∧ Pen (m + 1000) o') → (∀ b u, b ≠ a → G b = some u → G' b = some u) → q (.lst (as.map D.ref)) G'
def p_heap (x y : D) (G : Gp) (q : MK) : Prop := ∃ a n m o, x = .ref a ∧ y = .int (n : Nat) ∧ 1 ≤ n ∧ n ≤ 40 ∧ G a = some o ∧ Pen m o ∧ m + 2000 ≤ 100000 ∧
  ∀ slots outs s o', HeapOk slots outs → Pen (m + 2000) o' → q (.tup [.tup [.tup slots, .tup outs], s]) (put G a o')
def p_children (x y : D) (G : Gp) (q : MK) : Prop := ∃ a n m o, x = .ref a ∧ y = .int (n : Nat) ∧ 1 ≤ n ∧ n ≤ 40 ∧ G a = some o ∧ Pen m o ∧ m + 2000 ≤ 100000 ∧
  ∀ t o', TreeOk t → Pen (m + 2000) o' → q t (put G a o')
def p_heap_text (x : D) (G : Gp) (q : MK) : Prop := p_format_heap x G q
def p_numbers_text (x : D) (G : Gp) (q : MK) : Prop := p_joined x G q
def p_tree_text (x : D) (G : Gp) (q : MK) : Prop := p_format_tree x G q
def p_right (x y z : D) (G : Gp) (q : MK) : Prop := HomeOk x ∧ TreeOk y ∧ SomeOk z ∧ q (.bl true) G
def p_law (x : D) (G : Gp) (q : MK) : Prop := ∃ ns : List Int, x = .fz (ns.map D.int) ∧ ∀ G', q (.bl true) G'
end Q81

set_option maxRecDepth 100000
namespace Q81
open PySem PySem.Spec L2 ML
open PyProof.Rows hiding St
def top (i : Nat) : Stmt := PySem.Challenge.pw_slotfall_k81_texts_written.main.body.getD i (.Pass ⟨0, 0, 0, 0⟩)
abbrev s_joined : Stmt := top 1
theorem sc_joined : FnScope ["numbers", "number"] ["numbers"] (defScope s_joined) := ⟨rfl, rfl, rfl, by decide +kernel, rfl, by decide +kernel, by decide +kernel⟩
abbrev s_line_of : Stmt := top 2
theorem sc_line_of : FnScope ["row", "references", "held"] ["row", "references"] (defScope s_line_of) := ⟨rfl, rfl, rfl, by decide +kernel, rfl, by decide +kernel, by decide +kernel⟩
abbrev s_format_heap : Stmt := top 3
theorem sc_format_heap : FnScope ["heap", "slots", "outside", "row", "references"] ["heap"] (defScope s_format_heap) := ⟨rfl, rfl, rfl, by decide +kernel, rfl, by decide +kernel, by decide +kernel⟩
abbrev s_format_tree : Stmt := top 4
theorem sc_format_tree : FnScope ["tree", "children"] ["tree"] (defScope s_format_tree) := ⟨rfl, rfl, rfl, by decide +kernel, rfl, by decide +kernel, by decide +kernel⟩
abbrev s_format_log : Stmt := top 5
theorem sc_format_log : FnScope ["log"] ["log"] (defScope s_format_log) := ⟨rfl, rfl, rfl, by decide +kernel, rfl, by decide +kernel, by decide +kernel⟩
abbrev s_pen : Stmt := top 7
theorem sc_pen : FnScope ["_law_script"] ["_law_script"] (defScope s_pen) := ⟨rfl, rfl, rfl, by decide +kernel, rfl, by decide +kernel, by decide +kernel⟩
abbrev s_draw : Stmt := top 8
theorem sc_draw : FnScope ["_law_pen_here", "_law_bound", "_law_digit", "_law_at", "_law_cell", "_law_great", "_law_mixed"] ["_law_pen_here", "_law_bound"] (defScope s_draw) := ⟨rfl, rfl, rfl, by decide +kernel, rfl, by decide +kernel, by decide +kernel⟩
abbrev s_order : Stmt := top 9
theorem sc_order : FnScope ["_law_pen_here", "_law_size_here", "_law_left", "_law_k"] ["_law_pen_here", "_law_size_here"] (defScope s_order) := ⟨rfl, rfl, rfl, by decide +kernel, rfl, by decide +kernel, by decide +kernel⟩
abbrev s_size : Stmt := top 10
theorem sc_size : FnScope ["_law_pen_here", "_law_most", "_law_way"] ["_law_pen_here", "_law_most"] (defScope s_size) := ⟨rfl, rfl, rfl, by decide +kernel, rfl, by decide +kernel, by decide +kernel⟩
abbrev s_links : Stmt := top 11
theorem sc_links : FnScope ["_law_pen_here", "_law_size_here", "_law_way", "_law_deep", "_law_rows", "_law_k", "_law_v", "_law_holder", "_law_row", "_law_a", "_law_b"] ["_law_pen_here", "_law_size_here"] (defScope s_links) := ⟨rfl, rfl, rfl, by decide +kernel, rfl, by decide +kernel, by decide +kernel⟩
abbrev s_heap : Stmt := top 12
theorem sc_heap : FnScope ["_law_pen_here", "_law_most", "_law_size_here", "_law_rows", "_law_spare", "_law_names", "_law_slots", "_law_outside", "_law_v", "_law_held"] ["_law_pen_here", "_law_most"] (defScope s_heap) := ⟨rfl, rfl, rfl, by decide +kernel, rfl, by decide +kernel, by decide +kernel⟩
abbrev s_children : Stmt := top 13
theorem sc_children : FnScope ["_law_pen_here", "_law_most", "_law_size_here", "_law_names", "_law_deep", "_law_rows", "_law_k", "_law_row", "_law_found"] ["_law_pen_here", "_law_most"] (defScope s_children) := ⟨rfl, rfl, rfl, by decide +kernel, rfl, by decide +kernel, by decide +kernel⟩
abbrev s_heap_text : Stmt := top 14
theorem sc_heap_text : FnScope ["_law_home", "_law_lines", "_law_v", "_law_row", "_law_line", "_law_held"] ["_law_home"] (defScope s_heap_text) := ⟨rfl, rfl, rfl, by decide +kernel, rfl, by decide +kernel, by decide +kernel⟩
abbrev s_numbers_text : Stmt := top 15
theorem sc_numbers_text : FnScope ["_law_some", "_law_k"] ["_law_some"] (defScope s_numbers_text) := ⟨rfl, rfl, rfl, by decide +kernel, rfl, by decide +kernel, by decide +kernel⟩
abbrev s_tree_text : Stmt := top 16
theorem sc_tree_text : FnScope ["_law_given", "_law_row"] ["_law_given"] (defScope s_tree_text) := ⟨rfl, rfl, rfl, by decide +kernel, rfl, by decide +kernel, by decide +kernel⟩
abbrev s_right : Stmt := top 17
theorem sc_right : FnScope ["_law_home", "_law_given", "_law_some", "_law_state", "_law_due"] ["_law_home", "_law_given", "_law_some"] (defScope s_right) := ⟨rfl, rfl, rfl, by decide +kernel, rfl, by decide +kernel, by decide +kernel⟩
abbrev s_law : Stmt := top 18
theorem sc_law : FnScope ["_law_script", "_law_pen_here", "_law_most", "_law_home", "_law_spot", "_law_given", "_law_some", "_law_k"] ["_law_script"] (defScope s_law) := ⟨rfl, rfl, rfl, by decide +kernel, rfl, by decide +kernel, by decide +kernel⟩
structure Prg (K : PySem.W.Frag) (mg : Str → Option Value) where
  f_joined : Addr
  fd_joined : FuncData
  d_joined : Df K mg "joined" s_joined f_joined fd_joined ["numbers"]
  f_line_of : Addr
  fd_line_of : FuncData
  d_line_of : Df K mg "line_of" s_line_of f_line_of fd_line_of ["row", "references"]
  f_format_heap : Addr
  fd_format_heap : FuncData
  d_format_heap : Df K mg "format_heap" s_format_heap f_format_heap fd_format_heap ["heap"]
  f_format_tree : Addr
  fd_format_tree : FuncData
  d_format_tree : Df K mg "format_tree" s_format_tree f_format_tree fd_format_tree ["tree"]
  f_format_log : Addr
  fd_format_log : FuncData
  d_format_log : Df K mg "format_log" s_format_log f_format_log fd_format_log ["log"]
  f_pen : Addr
  fd_pen : FuncData
  d_pen : Df K mg "_law_pen" s_pen f_pen fd_pen ["_law_script"]
  f_draw : Addr
  fd_draw : FuncData
  d_draw : Df K mg "_law_draw" s_draw f_draw fd_draw ["_law_pen_here", "_law_bound"]
  f_order : Addr
  fd_order : FuncData
  d_order : Df K mg "_law_order" s_order f_order fd_order ["_law_pen_here", "_law_size_here"]
  f_size : Addr
  fd_size : FuncData
  d_size : Df K mg "_law_size" s_size f_size fd_size ["_law_pen_here", "_law_most"]
  f_links : Addr
  fd_links : FuncData
  d_links : Df K mg "_law_links" s_links f_links fd_links ["_law_pen_here", "_law_size_here"]
  f_heap : Addr
  fd_heap : FuncData
  d_heap : Df K mg "_law_heap" s_heap f_heap fd_heap ["_law_pen_here", "_law_most"]
  f_children : Addr
  fd_children : FuncData
  d_children : Df K mg "_law_children" s_children f_children fd_children ["_law_pen_here", "_law_most"]
  f_heap_text : Addr
  fd_heap_text : FuncData
  d_heap_text : Df K mg "_law_heap_text" s_heap_text f_heap_text fd_heap_text ["_law_home"]
  f_numbers_text : Addr
  fd_numbers_text : FuncData
  d_numbers_text : Df K mg "_law_numbers_text" s_numbers_text f_numbers_text fd_numbers_text ["_law_some"]
  f_tree_text : Addr
  fd_tree_text : FuncData
  d_tree_text : Df K mg "_law_tree_text" s_tree_text f_tree_text fd_tree_text ["_law_given"]
  f_right : Addr
  fd_right : FuncData
  d_right : Df K mg "_law_right" s_right f_right fd_right ["_law_home", "_law_given", "_law_some"]
  f_law : Addr
  fd_law : FuncData
  d_law : Df K mg "law" s_law f_law fd_law ["_law_script"]
  n_abs : mg "abs" = none
  n_enumerate : mg "enumerate" = none
  n_int : mg "int" = none
  n_len : mg "len" = none
  n_list : mg "list" = none
  n_max : mg "max" = none
  n_min : mg "min" = none
  n_range : mg "range" = none
  n_repr : mg "repr" = none
  n_str : mg "str" = none
  n_tuple : mg "tuple" = none
  n_zip : mg "zip" = none
def sp_joined : MSp := fun ws G q _ => match ws with
  | [x0] => p_joined x0 G q
  | _ => False
theorem e_sp_joined (x0 : D) (G : Gp) (q : MK) (E : MX) : sp_joined [x0] G q E = p_joined x0 G q := rfl
theorem len_joined (ws : List D) (G : Gp) (Q : MK) (E : MX) (h : sp_joined ws G Q E) : ws.length = 1 := by
  unfold sp_joined at h; split at h
  · rfl
  · exact h.elim
def sp_line_of : MSp := fun ws G q _ => match ws with
  | [x0, x1] => p_line_of x0 x1 G q
  | _ => False
theorem e_sp_line_of (x0 x1 : D) (G : Gp) (q : MK) (E : MX) : sp_line_of [x0, x1] G q E = p_line_of x0 x1 G q := rfl
theorem len_line_of (ws : List D) (G : Gp) (Q : MK) (E : MX) (h : sp_line_of ws G Q E) : ws.length = 2 := by
  unfold sp_line_of at h; split at h
  · rfl
  · exact h.elim
def sp_format_heap : MSp := fun ws G q _ => match ws with
  | [x0] => p_format_heap x0 G q
  | _ => False
theorem e_sp_format_heap (x0 : D) (G : Gp) (q : MK) (E : MX) : sp_format_heap [x0] G q E = p_format_heap x0 G q := rfl
theorem len_format_heap (ws : List D) (G : Gp) (Q : MK) (E : MX) (h : sp_format_heap ws G Q E) : ws.length = 1 := by
  unfold sp_format_heap at h; split at h
  · rfl
  · exact h.elim
def sp_format_tree : MSp := fun ws G q _ => match ws with
  | [x0] => p_format_tree x0 G q
  | _ => False
theorem e_sp_format_tree (x0 : D) (G : Gp) (q : MK) (E : MX) : sp_format_tree [x0] G q E = p_format_tree x0 G q := rfl
theorem len_format_tree (ws : List D) (G : Gp) (Q : MK) (E : MX) (h : sp_format_tree ws G Q E) : ws.length = 1 := by
  unfold sp_format_tree at h; split at h
  · rfl
  · exact h.elim
def sp_format_log : MSp := fun ws G q _ => match ws with
  | [x0] => p_format_log x0 G q
  | _ => False
theorem e_sp_format_log (x0 : D) (G : Gp) (q : MK) (E : MX) : sp_format_log [x0] G q E = p_format_log x0 G q := rfl
theorem len_format_log (ws : List D) (G : Gp) (Q : MK) (E : MX) (h : sp_format_log ws G Q E) : ws.length = 1 := by
  unfold sp_format_log at h; split at h
  · rfl
  · exact h.elim
def sp_pen : MSp := fun ws G q _ => match ws with
  | [x0] => p_pen x0 G q
  | _ => False
theorem e_sp_pen (x0 : D) (G : Gp) (q : MK) (E : MX) : sp_pen [x0] G q E = p_pen x0 G q := rfl
theorem len_pen (ws : List D) (G : Gp) (Q : MK) (E : MX) (h : sp_pen ws G Q E) : ws.length = 1 := by
  unfold sp_pen at h; split at h
  · rfl
  · exact h.elim
def sp_draw : MSp := fun ws G q _ => match ws with
  | [x0, x1] => p_draw x0 x1 G q
  | _ => False
theorem e_sp_draw (x0 x1 : D) (G : Gp) (q : MK) (E : MX) : sp_draw [x0, x1] G q E = p_draw x0 x1 G q := rfl
theorem len_draw (ws : List D) (G : Gp) (Q : MK) (E : MX) (h : sp_draw ws G Q E) : ws.length = 2 := by
  unfold sp_draw at h; split at h
  · rfl
  · exact h.elim
def sp_order : MSp := fun ws G q _ => match ws with
  | [x0, x1] => p_order x0 x1 G q
  | _ => False
theorem e_sp_order (x0 x1 : D) (G : Gp) (q : MK) (E : MX) : sp_order [x0, x1] G q E = p_order x0 x1 G q := rfl
theorem len_order (ws : List D) (G : Gp) (Q : MK) (E : MX) (h : sp_order ws G Q E) : ws.length = 2 := by
  unfold sp_order at h; split at h
  · rfl
  · exact h.elim
def sp_size : MSp := fun ws G q _ => match ws with
  | [x0, x1] => p_size x0 x1 G q
  | _ => False
theorem e_sp_size (x0 x1 : D) (G : Gp) (q : MK) (E : MX) : sp_size [x0, x1] G q E = p_size x0 x1 G q := rfl
theorem len_size (ws : List D) (G : Gp) (Q : MK) (E : MX) (h : sp_size ws G Q E) : ws.length = 2 := by
  unfold sp_size at h; split at h
  · rfl
  · exact h.elim
def sp_links : MSp := fun ws G q _ => match ws with
  | [x0, x1] => p_links x0 x1 G q
  | _ => False
theorem e_sp_links (x0 x1 : D) (G : Gp) (q : MK) (E : MX) : sp_links [x0, x1] G q E = p_links x0 x1 G q := rfl
theorem len_links (ws : List D) (G : Gp) (Q : MK) (E : MX) (h : sp_links ws G Q E) : ws.length = 2 := by
  unfold sp_links at h; split at h
  · rfl
  · exact h.elim
def sp_heap : MSp := fun ws G q _ => match ws with
  | [x0, x1] => p_heap x0 x1 G q
  | _ => False
theorem e_sp_heap (x0 x1 : D) (G : Gp) (q : MK) (E : MX) : sp_heap [x0, x1] G q E = p_heap x0 x1 G q := rfl
theorem len_heap (ws : List D) (G : Gp) (Q : MK) (E : MX) (h : sp_heap ws G Q E) : ws.length = 2 := by
  unfold sp_heap at h; split at h
  · rfl
  · exact h.elim
def sp_children : MSp := fun ws G q _ => match ws with
  | [x0, x1] => p_children x0 x1 G q
  | _ => False
theorem e_sp_children (x0 x1 : D) (G : Gp) (q : MK) (E : MX) : sp_children [x0, x1] G q E = p_children x0 x1 G q := rfl
theorem len_children (ws : List D) (G : Gp) (Q : MK) (E : MX) (h : sp_children ws G Q E) : ws.length = 2 := by
  unfold sp_children at h; split at h
  · rfl
  · exact h.elim
def sp_heap_text : MSp := fun ws G q _ => match ws with
  | [x0] => p_heap_text x0 G q
  | _ => False
theorem e_sp_heap_text (x0 : D) (G : Gp) (q : MK) (E : MX) : sp_heap_text [x0] G q E = p_heap_text x0 G q := rfl
theorem len_heap_text (ws : List D) (G : Gp) (Q : MK) (E : MX) (h : sp_heap_text ws G Q E) : ws.length = 1 := by
  unfold sp_heap_text at h; split at h
  · rfl
  · exact h.elim
def sp_numbers_text : MSp := fun ws G q _ => match ws with
  | [x0] => p_numbers_text x0 G q
  | _ => False
theorem e_sp_numbers_text (x0 : D) (G : Gp) (q : MK) (E : MX) : sp_numbers_text [x0] G q E = p_numbers_text x0 G q := rfl
theorem len_numbers_text (ws : List D) (G : Gp) (Q : MK) (E : MX) (h : sp_numbers_text ws G Q E) : ws.length = 1 := by
  unfold sp_numbers_text at h; split at h
  · rfl
  · exact h.elim
def sp_tree_text : MSp := fun ws G q _ => match ws with
  | [x0] => p_tree_text x0 G q
  | _ => False
theorem e_sp_tree_text (x0 : D) (G : Gp) (q : MK) (E : MX) : sp_tree_text [x0] G q E = p_tree_text x0 G q := rfl
theorem len_tree_text (ws : List D) (G : Gp) (Q : MK) (E : MX) (h : sp_tree_text ws G Q E) : ws.length = 1 := by
  unfold sp_tree_text at h; split at h
  · rfl
  · exact h.elim
def sp_right : MSp := fun ws G q _ => match ws with
  | [x0, x1, x2] => p_right x0 x1 x2 G q
  | _ => False
theorem e_sp_right (x0 x1 x2 : D) (G : Gp) (q : MK) (E : MX) : sp_right [x0, x1, x2] G q E = p_right x0 x1 x2 G q := rfl
theorem len_right (ws : List D) (G : Gp) (Q : MK) (E : MX) (h : sp_right ws G Q E) : ws.length = 3 := by
  unfold sp_right at h; split at h
  · rfl
  · exact h.elim
def sp_law : MSp := fun ws G q _ => match ws with
  | [x0] => p_law x0 G q
  | _ => False
theorem e_sp_law (x0 : D) (G : Gp) (q : MK) (E : MX) : sp_law [x0] G q E = p_law x0 G q := rfl
theorem len_law (ws : List D) (G : Gp) (Q : MK) (E : MX) (h : sp_law ws G Q E) : ws.length = 1 := by
  unfold sp_law at h; split at h
  · rfl
  · exact h.elim
section
variable {P : Program} {w : World} {K : PySem.W.Frag} {mg : Str → Option Value} {base : Heap}
def b_joined : TSm := (mRet (mOr (mBM "str" mJoin (mC (.str " ")) (mCons (mLc false (mSeqI (mVar 0)) (.nm 1) mYes (mCB mStr (mCons (mVar 1) mNil)) [1]) mNil)) (mC (.str "-"))))
theorem walk_joined (T : Prg K mg)  {B : Bs} {cdv : Value} {A : Around} {outer : List Env} {s : Shared} {H : Hp} {xe : XK} (hr : Rm 0 (A.deeper (envOfC "joined" (defScope s_joined) s.heap.objs.size T.f_joined cdv))) :
    MSs B (cxOf (L2.CX P w) P w K mg base ["numbers", "number"] "joined" (defScope s_joined) T.f_joined cdv A outer s H xe).nox (defBody s_joined) b_joined :=
  (mss_one (ms_ret (m_orE (m_bm PySem.F.plainAttrs_str PySem.F.slot_str_join PySem.F.type_str_join mm_join m_str (ma_cons (m_lc false rfl sc_joined.nd (mi_seq (mv 0)) (blkOk_by (own := [("number", 1)]) (by kernel_rfl)) (by decide) (fun _ _ _ _ _ => (mg_name (i := 1) sc_joined.nd rfl (by first | exact Or.inl rfl | exact Or.inr rfl))) (fun _ _ _ _ _ => mts_nil) (fun _ _ _ _ _ => (m_callTy c_str (by rfl) T.n_str bb_str (ma_cons (mv 1) ma_nil)))) ma_nil)) (m_one m_str))))
def b_line_of_3 : TSm := (mRet (mBM "str" mJoin (mC (.str " ")) (mCons (mOp (mAdd false) (mLst false (mCons (mCB mStr (mCons (mVar 1) mNil)) mNil)) (mLc false (mSeqI (mVar 0)) (.nm 2) mYes (mIf (mTest (mOp mIsN (mVar 2) (mC .non))) (mC (.str "-")) (mCB mStr (mCons (mVar 2) mNil))) [2])) mNil)))
def b_line_of_2 : TSm := (mRet (mC (.str "free")))
def b_line_of : TSm := (mSeq (mIfS (mTest (mOp mIsN (mVar 0) (mC .non))) b_line_of_2 mNext) b_line_of_3)
theorem walk_line_of (T : Prg K mg)  {B : Bs} {cdv : Value} {A : Around} {outer : List Env} {s : Shared} {H : Hp} {xe : XK} (hr : Rm 0 (A.deeper (envOfC "line_of" (defScope s_line_of) s.heap.objs.size T.f_line_of cdv))) :
    MSs B (cxOf (L2.CX P w) P w K mg base ["row", "references", "held"] "line_of" (defScope s_line_of) T.f_line_of cdv A outer s H xe).nox (defBody s_line_of) b_line_of :=
  (mss_cons (ms_if (mt_cmp o_isN (mv 0) m_non) (mss_one (ms_ret m_str)) mss_nil)
    (mss_one (ms_ret (m_bm PySem.F.plainAttrs_str PySem.F.slot_str_join PySem.F.type_str_join mm_join m_str (ma_cons (m_op (o_add (own := false)) (m_lst false (ma_cons (m_callTy c_str (by rfl) T.n_str bb_str (ma_cons (mv 1) ma_nil)) ma_nil)) (m_lc false rfl sc_line_of.nd (mi_seq (mv 0)) (blkOk_by (own := [("held", 2)]) (by kernel_rfl)) (by decide) (fun _ _ _ _ _ => (mg_name (i := 2) sc_line_of.nd rfl (by first | exact Or.inl rfl | exact Or.inr rfl))) (fun _ _ _ _ _ => mts_nil) (fun _ _ _ _ _ => (m_ifE (mt_cmp o_isN (mv 2) m_non) m_str (m_callTy c_str (by rfl) T.n_str bb_str (ma_cons (mv 2) ma_nil)))))) ma_nil)))))
def b_format_heap_2 : TSm := (mRet (mBM "str" mJoin (mC (.str "\n")) (mCons (mLc false (mZipT (mVar 1) (mVar 2)) (.tp [(.nm 3), (.nm 4)]) mYes (mCall sp_line_of noX (mCons (mVar 3) (mCons (mVar 4) mNil))) [3, 4]) mNil)))
def b_format_heap : TSm := (mSeq (mAsg (mVar 0) (.tp [(.nm 1), (.nm 2)])) b_format_heap_2)
theorem walk_format_heap (T : Prg K mg) (g_line_of : FnG P w K mg base 1 T.f_line_of T.fd_line_of ["row", "references"] sp_line_of) {B : Bs} {cdv : Value} {A : Around} {outer : List Env} {s : Shared} {H : Hp} {xe : XK} (hr : Rm 1 (A.deeper (envOfC "format_heap" (defScope s_format_heap) s.heap.objs.size T.f_format_heap cdv))) :
    MSs B (cxOf (L2.CX P w) P w K mg base ["heap", "slots", "outside", "row", "references"] "format_heap" (defScope s_format_heap) T.f_format_heap cdv A outer s H xe).nox (defBody s_format_heap) b_format_heap :=
  (mss_cons (ms_asg (mv 0) (mg_tup rfl (mgs_cons (mg_name (i := 1) sc_format_heap.nd rfl (by first | exact Or.inl rfl | exact Or.inr rfl)) (mgs_cons (mg_name (i := 2) sc_format_heap.nd rfl (by first | exact Or.inl rfl | exact Or.inr rfl)) mgs_nil))))
    (mss_one (ms_ret (m_bm PySem.F.plainAttrs_str PySem.F.slot_str_join PySem.F.type_str_join mm_join m_str (ma_cons (m_lc false rfl sc_format_heap.nd (mi_zip (by rfl) T.n_zip (mv 1) (mv 2)) (blkOk_by (own := [("row", 3), ("references", 4)]) (by kernel_rfl)) (by decide) (fun _ _ _ _ _ => (mg_tup rfl (mgs_cons (mg_name (i := 3) sc_format_heap.nd rfl (by first | exact Or.inl rfl | exact Or.inr rfl)) (mgs_cons (mg_name (i := 4) sc_format_heap.nd rfl (by first | exact Or.inl rfl | exact Or.inr rfl)) mgs_nil)))) (fun _ _ _ _ _ => mts_nil) (fun _ _ _ _ _ => (m_call g_line_of (hr.mono (by decide)) (by rfl) T.d_line_of.mgx T.d_line_of.kp T.d_line_of.bd (ma_cons (mv 3) (ma_cons (mv 4) ma_nil))))) ma_nil)))))
def b_format_tree : TSm := (mRet (mBM "str" mJoin (mC (.str "\n")) (mCons (mLc false (mSeqI (mVar 0)) (.nm 1) mYes (mCall sp_joined noX (mCons (mVar 1) mNil)) [1]) mNil)))
theorem walk_format_tree (T : Prg K mg) (g_joined : FnG P w K mg base 1 T.f_joined T.fd_joined ["numbers"] sp_joined) {B : Bs} {cdv : Value} {A : Around} {outer : List Env} {s : Shared} {H : Hp} {xe : XK} (hr : Rm 1 (A.deeper (envOfC "format_tree" (defScope s_format_tree) s.heap.objs.size T.f_format_tree cdv))) :
    MSs B (cxOf (L2.CX P w) P w K mg base ["tree", "children"] "format_tree" (defScope s_format_tree) T.f_format_tree cdv A outer s H xe).nox (defBody s_format_tree) b_format_tree :=
  (mss_one (ms_ret (m_bm PySem.F.plainAttrs_str PySem.F.slot_str_join PySem.F.type_str_join mm_join m_str (ma_cons (m_lc false rfl sc_format_tree.nd (mi_seq (mv 0)) (blkOk_by (own := [("children", 1)]) (by kernel_rfl)) (by decide) (fun _ _ _ _ _ => (mg_name (i := 1) sc_format_tree.nd rfl (by first | exact Or.inl rfl | exact Or.inr rfl))) (fun _ _ _ _ _ => mts_nil) (fun _ _ _ _ _ => (m_call g_joined (hr.mono (by decide)) (by rfl) T.d_joined.mgx T.d_joined.kp T.d_joined.bd (ma_cons (mv 1) ma_nil)))) ma_nil))))
def b_format_log : TSm := (mRet (mCall sp_joined noX (mCons (mVar 0) mNil)))
theorem walk_format_log (T : Prg K mg) (g_joined : FnG P w K mg base 1 T.f_joined T.fd_joined ["numbers"] sp_joined) {B : Bs} {cdv : Value} {A : Around} {outer : List Env} {s : Shared} {H : Hp} {xe : XK} (hr : Rm 1 (A.deeper (envOfC "format_log" (defScope s_format_log) s.heap.objs.size T.f_format_log cdv))) :
    MSs B (cxOf (L2.CX P w) P w K mg base ["log"] "format_log" (defScope s_format_log) T.f_format_log cdv A outer s H xe).nox (defBody s_format_log) b_format_log :=
  (mss_one (ms_ret (m_call g_joined (hr.mono (by decide)) (by rfl) T.d_joined.mgx T.d_joined.kp T.d_joined.bd (ma_cons (mv 0) ma_nil))))
def b_pen : TSm := (mRet (mLst true (mCons (mCB (mList false) (mCons (mSl false (mVar 0) mNoPart (mPart (mC (.int 63)))) mNil)) (mCons (mC (.int 0)) (mCons (mC (.int 0)) mNil)))))
theorem walk_pen (T : Prg K mg)  {B : Bs} {cdv : Value} {A : Around} {outer : List Env} {s : Shared} {H : Hp} {xe : XK} (hr : Rm 0 (A.deeper (envOfC "_law_pen" (defScope s_pen) s.heap.objs.size T.f_pen cdv))) :
    MSs B (cxOf (L2.CX P w) P w K mg base ["_law_script"] "_law_pen" (defScope s_pen) T.f_pen cdv A outer s H xe).nox (defBody s_pen) b_pen :=
  (mss_one (ms_ret (m_lst true (ma_cons (m_callTy (c_list false) (by rfl) T.n_list bb_list (ma_cons (m_sl false (mv 0) mo_none (mo_some m_int)) ma_nil)) (ma_cons m_int (ma_cons m_int ma_nil))))))
def b_draw_16 : TSm := (mRet (mOp mMod (mOp mFdv (mVar 6) (mC (.int 64))) (mVar 1)))
def b_draw_15 : TSm := (mSeq (mAsg (mOp mMod (mOp mPow (mOp (mAdd false) (mOp (mMul false) (mVar 6) (mOp (mAdd false) (mOp (mMul false) (mC (.int 2)) (mVar 3)) (mC (.int 17)))) (mC (.int 90011))) (mC (.int 3))) (mC (.int 2147483579))) (.nm 6)) b_draw_16)
def b_draw_14 : TSm := (mSeq (mAsg (mOp mMod (mOp mPow (mOp (mAdd false) (mOp (mAdd false) (mOp (mAdd false) (mOp mMod (mVar 4) (mC (.int 2147483587))) (mOp (mMul false) (mC (.int 40009)) (mVar 3))) (mOp (mMul false) (mOp (mMul false) (mC (.int 6007)) (mVar 3)) (mVar 3))) (mC (.int 13))) (mC (.int 5))) (mC (.int 2147483647))) (.nm 6)) b_draw_15)
def b_draw_13 : TSm := (mRet (mOp mMod (mVar 5) (mVar 1)))
def b_draw_12 : TSm := (mSeq (mSetI (mOp mFdv (mVar 5) (mVar 1)) (mVar 0) (mC (.int 2))) b_draw_13)
def b_draw_11 : TSm := (mSeq (mAsg (mOp (mAdd false) (mOp (mMul false) (mC (.int 2)) (mOp mSub (mCB mAbs (mCons (mVar 4) mNil)) (mOp mPow (mC (.int 10)) (mC (.int 18))))) (mCB mInt (mCons (mOp mLt (mVar 4) (mC (.int 0))) mNil))) (.nm 5)) b_draw_12)
def b_draw_10 : TSm := (mSeq (mIfS (mAndT (mTest (mOp mLt (mVar 3) (mCB mLen (mCons (mOp mIx (mVar 0) (mC (.int 0))) mNil)))) (mTest (mOp mGe (mCB mAbs (mCons (mVar 4) mNil)) (mOp mPow (mC (.int 10)) (mC (.int 18)))))) b_draw_11 mNext) b_draw_14)
def b_draw_9 : TSm := (mAsg (mOp mIx (mOp mIx (mVar 0) (mC (.int 0))) (mOp mMod (mVar 3) (mCB mLen (mCons (mOp mIx (mVar 0) (mC (.int 0))) mNil)))) (.nm 4))
def b_draw_8 : TSm := (mSeq (mIfS (mTest (mOp mNe (mOp mIx (mVar 0) (mC (.int 0))) (mLst false mNil))) b_draw_9 mNext) b_draw_10)
def b_draw_7 : TSm := (mSeq (mAsg (mOp (mAdd false) (mOp (mMul false) (mC (.int 53003)) (mVar 3)) (mC (.int 61))) (.nm 4)) b_draw_8)
def b_draw_6 : TSm := (mSeq (mSetI (mOp (mAdd false) (mVar 3) (mC (.int 1))) (mVar 0) (mC (.int 1))) b_draw_7)
def b_draw_5 : TSm := (mSeq (mAsg (mOp mIx (mVar 0) (mC (.int 1))) (.nm 3)) b_draw_6)
def b_draw_4 : TSm := (mRet (mVar 2))
def b_draw_3 : TSm := (mSeq (mSetI (mOp mFdv (mOp mIx (mVar 0) (mC (.int 2))) (mVar 1)) (mVar 0) (mC (.int 2))) b_draw_4)
def b_draw_2 : TSm := (mSeq (mAsg (mOp mMod (mOp mIx (mVar 0) (mC (.int 2))) (mVar 1)) (.nm 2)) b_draw_3)
def b_draw : TSm := (mSeq (mIfS (mTest (mOp mGt (mOp mIx (mVar 0) (mC (.int 2))) (mC (.int 0)))) b_draw_2 mNext) b_draw_5)
theorem walk_draw (T : Prg K mg)  {B : Bs} {cdv : Value} {A : Around} {outer : List Env} {s : Shared} {H : Hp} {xe : XK} (hr : Rm 0 (A.deeper (envOfC "_law_draw" (defScope s_draw) s.heap.objs.size T.f_draw cdv))) :
    MSs B (cxOf (L2.CX P w) P w K mg base ["_law_pen_here", "_law_bound", "_law_digit", "_law_at", "_law_cell", "_law_great", "_law_mixed"] "_law_draw" (defScope s_draw) T.f_draw cdv A outer s H xe).nox (defBody s_draw) b_draw :=
  (mss_cons (ms_if (mt_cmp o_gt (m_ix (mv 0) m_int) m_int) (mss_cons (ms_set (i := 2) sc_draw.nd rfl (by first | exact Or.inl rfl | exact Or.inr rfl) (m_op o_mod (m_ix (mv 0) m_int) (mv 1)))
    (mss_cons (ms_setI (m_op o_fdv (m_ix (mv 0) m_int) (mv 1)) (mv 0) m_int)
    (mss_one (ms_ret (mv 2))))) mss_nil)
    (mss_cons (ms_set (i := 3) sc_draw.nd rfl (by first | exact Or.inl rfl | exact Or.inr rfl) (m_ix (mv 0) m_int))
    (mss_cons (ms_setI (m_op (o_add (own := false)) (mv 3) m_int) (mv 0) m_int)
    (mss_cons (ms_set (i := 4) sc_draw.nd rfl (by first | exact Or.inl rfl | exact Or.inr rfl) (m_op (o_add (own := false)) (m_op (o_mul (own := false)) m_int (mv 3)) m_int))
    (mss_cons (ms_if (mt_cmp (o_ne hr.hu) (m_ix (mv 0) m_int) (m_lst false ma_nil)) (mss_one (ms_set (i := 4) sc_draw.nd rfl (by first | exact Or.inl rfl | exact Or.inr rfl) (m_ix (m_ix (mv 0) m_int) (m_op o_mod (mv 3) (m_callB c_len (by rfl) T.n_len bb_len (ma_cons (m_ix (mv 0) m_int) ma_nil)))))) mss_nil)
    (mss_cons (ms_if ((mw_and (mt_cmp o_lt (mv 3) (m_callB c_len (by rfl) T.n_len bb_len (ma_cons (m_ix (mv 0) m_int) ma_nil))) (mw_and1 (mt_cmp o_ge (m_callB c_abs (by rfl) T.n_abs bb_abs (ma_cons (mv 4) ma_nil)) (m_op o_pow m_int m_int))))).mt (mss_cons (ms_set (i := 5) sc_draw.nd rfl (by first | exact Or.inl rfl | exact Or.inr rfl) (m_op (o_add (own := false)) (m_op (o_mul (own := false)) m_int (m_op o_sub (m_callB c_abs (by rfl) T.n_abs bb_abs (ma_cons (mv 4) ma_nil)) (m_op o_pow m_int m_int))) (m_callTy c_int (by rfl) T.n_int bb_int (ma_cons (m_cmp o_lt (mv 4) m_int) ma_nil))))
    (mss_cons (ms_setI (m_op o_fdv (mv 5) (mv 1)) (mv 0) m_int)
    (mss_one (ms_ret (m_op o_mod (mv 5) (mv 1)))))) mss_nil)
    (mss_cons (ms_set (i := 6) sc_draw.nd rfl (by first | exact Or.inl rfl | exact Or.inr rfl) (m_op o_mod (m_op o_pow (m_op (o_add (own := false)) (m_op (o_add (own := false)) (m_op (o_add (own := false)) (m_op o_mod (mv 4) m_int) (m_op (o_mul (own := false)) m_int (mv 3))) (m_op (o_mul (own := false)) (m_op (o_mul (own := false)) m_int (mv 3)) (mv 3))) m_int) m_int) m_int))
    (mss_cons (ms_set (i := 6) sc_draw.nd rfl (by first | exact Or.inl rfl | exact Or.inr rfl) (m_op o_mod (m_op o_pow (m_op (o_add (own := false)) (m_op (o_mul (own := false)) (mv 6) (m_op (o_add (own := false)) (m_op (o_mul (own := false)) m_int (mv 3)) m_int)) m_int) m_int) m_int))
    (mss_one (ms_ret (m_op o_mod (m_op o_fdv (mv 6) m_int) (mv 1))))))))))))
def b_order_2 : TSm := (mRet (mLc false (mRng1 (mVar 1)) (.nm 3) mYes (mBM "list" mPopAt (mVar 2) (mCons (mCall sp_draw noX (mCons (mVar 0) (mCons (mCB mLen (mCons (mVar 2) mNil)) mNil))) mNil)) [3]))
def b_order : TSm := (mSeq (mAsg (mLstRg1 true (mVar 1)) (.nm 2)) b_order_2)
theorem walk_order (T : Prg K mg) (g_draw : FnG P w K mg base 1 T.f_draw T.fd_draw ["_law_pen_here", "_law_bound"] sp_draw) {B : Bs} {cdv : Value} {A : Around} {outer : List Env} {s : Shared} {H : Hp} {xe : XK} (hr : Rm 1 (A.deeper (envOfC "_law_order" (defScope s_order) s.heap.objs.size T.f_order cdv))) :
    MSs B (cxOf (L2.CX P w) P w K mg base ["_law_pen_here", "_law_size_here", "_law_left", "_law_k"] "_law_order" (defScope s_order) T.f_order cdv A outer s H xe).nox (defBody s_order) b_order :=
  (mss_cons (ms_set (i := 2) sc_order.nd rfl (by first | exact Or.inl rfl | exact Or.inr rfl) (m_listRg1 true rfl (by rfl) T.n_list (by rfl) T.n_range (mv 1)))
    (mss_one (ms_ret (m_lc false rfl sc_order.nd (mi_rng1 (by rfl) T.n_range (mv 1)) (blkOk_by (own := [("_law_k", 3)]) (by kernel_rfl)) (by decide) (fun _ _ _ _ _ => (mg_name (i := 3) sc_order.nd rfl (by first | exact Or.inl rfl | exact Or.inr rfl))) (fun _ _ _ _ _ => mts_nil) (fun _ _ _ _ _ => (m_bm PySem.F.plainAttrs_list PySem.F.slot_list_pop PySem.F.type_list_pop mm_popAt (mv 2) (ma_cons (m_call g_draw (hr.mono (by decide)) (by rfl) T.d_draw.mgx T.d_draw.kp T.d_draw.bd (ma_cons (mv 0) (ma_cons (m_callB c_len (by rfl) T.n_len bb_len (ma_cons (mv 2) ma_nil)) ma_nil))) ma_nil)))))))
def b_size_2 : TSm := (mRet (mCB mMin2 (mCons (mVar 1) (mCons (mOp mIx (mLst false (mCons (mOp (mAdd false) (mC (.int 2)) (mCall sp_draw noX (mCons (mVar 0) (mCons (mC (.int 3)) mNil)))) (mCons (mOp (mAdd false) (mC (.int 3)) (mCall sp_draw noX (mCons (mVar 0) (mCons (mC (.int 5)) mNil)))) (mCons (mOp (mAdd false) (mC (.int 1)) (mCall sp_draw noX (mCons (mVar 0) (mCons (mVar 1) mNil)))) (mCons (mVar 1) mNil))))) (mVar 2)) mNil))))
def b_size : TSm := (mSeq (mAsg (mCall sp_draw noX (mCons (mVar 0) (mCons (mC (.int 4)) mNil))) (.nm 2)) b_size_2)
theorem walk_size (T : Prg K mg) (g_draw : FnG P w K mg base 1 T.f_draw T.fd_draw ["_law_pen_here", "_law_bound"] sp_draw) {B : Bs} {cdv : Value} {A : Around} {outer : List Env} {s : Shared} {H : Hp} {xe : XK} (hr : Rm 1 (A.deeper (envOfC "_law_size" (defScope s_size) s.heap.objs.size T.f_size cdv))) :
    MSs B (cxOf (L2.CX P w) P w K mg base ["_law_pen_here", "_law_most", "_law_way"] "_law_size" (defScope s_size) T.f_size cdv A outer s H xe).nox (defBody s_size) b_size :=
  (mss_cons (ms_set (i := 2) sc_size.nd rfl (by first | exact Or.inl rfl | exact Or.inr rfl) (m_call g_draw (hr.mono (by decide)) (by rfl) T.d_draw.mgx T.d_draw.kp T.d_draw.bd (ma_cons (mv 0) (ma_cons m_int ma_nil))))
    (mss_one (ms_ret (m_callB (c_min2 rfl) (by rfl) T.n_min bb_min (ma_cons (mv 1) (ma_cons (m_ix (m_lst false (ma_cons (m_op (o_add (own := false)) m_int (m_call g_draw (hr.mono (by decide)) (by rfl) T.d_draw.mgx T.d_draw.kp T.d_draw.bd (ma_cons (mv 0) (ma_cons m_int ma_nil)))) (ma_cons (m_op (o_add (own := false)) m_int (m_call g_draw (hr.mono (by decide)) (by rfl) T.d_draw.mgx T.d_draw.kp T.d_draw.bd (ma_cons (mv 0) (ma_cons m_int ma_nil)))) (ma_cons (m_op (o_add (own := false)) m_int (m_call g_draw (hr.mono (by decide)) (by rfl) T.d_draw.mgx T.d_draw.kp T.d_draw.bd (ma_cons (mv 0) (ma_cons (mv 1) ma_nil)))) (ma_cons (mv 1) ma_nil))))) (mv 2)) ma_nil))))))
def b_links_19 : TSm := (mRet (mVar 4))
def b_links_18 : TSm := (mDrop (mBM "list" mInsert (mVar 8) (mCons (mCall sp_draw noX (mCons (mVar 0) (mCons (mOp (mAdd false) (mCB mLen (mCons (mVar 8) mNil)) (mC (.int 1))) mNil))) (mCons (mC .non) mNil))))
def b_links_17 : TSm := (mIfS (mTest (mOp mEq (mCall sp_draw noX (mCons (mVar 0) (mCons (mC (.int 5)) mNil))) (mC (.int 0)))) b_links_18 mNext)
def b_links_16 : TSm := (mSeq (mFor (mSeqI (mVar 4)) (.nm 8) b_links_17) b_links_19)
def b_links_15 : TSm := (mDrop (mBM "list" mInsert (mVar 8) (mCons (mCall sp_draw noX (mCons (mVar 0) (mCons (mOp (mAdd false) (mCB mLen (mCons (mVar 8) mNil)) (mC (.int 1))) mNil))) (mCons (mVar 10) mNil))))
def b_links_14 : TSm := (mIfS (mAndT (mTest (mOp mLt (mCB mLen (mCons (mVar 8) mNil)) (mC (.int 38)))) (mOrT (mTest (mOp mNe (mVar 9) (mVar 10))) (mTest (mOp mEq (mVar 2) (mC (.int 3)))))) b_links_15 mNext)
def b_links_13 : TSm := (mSeq (mAsg (mOp mIx (mVar 4) (mVar 9)) (.nm 8)) b_links_14)
def b_links_12 : TSm := (mPar 9 10 (mCB mMin2 (mCons (mVar 9) (mCons (mVar 10) mNil))) (mCB mMin2 (mCons (mOp mSub (mVar 1) (mC (.int 1))) (mCons (mOp (mAdd false) (mCB mMax2 (mCons (mVar 9) (mCons (mVar 10) mNil))) (mCB mInt (mCons (mOp mEq (mVar 9) (mVar 10)) mNil))) mNil))))
def b_links_11 : TSm := (mSeq (mIfS (mAndT (mTest (mOp mLe (mVar 10) (mVar 9))) (mOrT (mTest (mOp mLt (mVar 2) (mC (.int 3)))) (mTest (mOp mGt (mCall sp_draw noX (mCons (mVar 0) (mCons (mC (.int 4)) mNil))) (mC (.int 0)))))) b_links_12 mNext) b_links_13)
def b_links_10 : TSm := (mSeq (mAsg (mCall sp_draw noX (mCons (mVar 0) (mCons (mVar 1) mNil))) (.nm 10)) b_links_11)
def b_links_9 : TSm := (mSeq (mAsg (mCall sp_draw noX (mCons (mVar 0) (mCons (mVar 1) mNil))) (.nm 9)) b_links_10)
def b_links_8 : TSm := (mSeq (mFor (mRng1 (mOp mIx (mLst false (mCons (mC (.int 0)) (mCons (mCall sp_draw noX (mCons (mVar 0) (mCons (mC (.int 4)) mNil))) (mCons (mVar 1) (mCons (mOp (mMul false) (mC (.int 2)) (mVar 1)) mNil))))) (mVar 2))) (.nm 5) b_links_9) b_links_16)
def b_links_7 : TSm := (mDrop (mBM "list" mInsert (mVar 8) (mCons (mCall sp_draw noX (mCons (mVar 0) (mCons (mOp (mAdd false) (mCB mLen (mCons (mVar 8) mNil)) (mC (.int 1))) mNil))) (mCons (mVar 6) mNil))))
def b_links_6 : TSm := (mSeq (mAsg (mOp mIx (mVar 4) (mVar 7)) (.nm 8)) b_links_7)
def b_links_5 : TSm := (mSeq (mAsg (mOp mIx (mLst false (mCons (mCall sp_draw noX (mCons (mVar 0) (mCons (mVar 6) mNil))) (mCons (mOp mSub (mVar 6) (mC (.int 1))) (mCons (mCB mMax2 (mCons (mC (.int 0)) (mCons (mOp mSub (mOp mSub (mVar 6) (mC (.int 1))) (mCall sp_draw noX (mCons (mVar 0) (mCons (mC (.int 3)) mNil)))) mNil))) mNil)))) (mVar 3)) (.nm 7)) b_links_6)
def b_links_4 : TSm := (mSeq (mFor (mRng2 (mC (.int 1)) (mVar 1)) (.nm 6) b_links_5) b_links_8)
def b_links_3 : TSm := (mSeq (mAsg (mLc false (mRng1 (mVar 1)) (.nm 5) mYes (mLst true mNil) [5]) (.nm 4)) b_links_4)
def b_links_2 : TSm := (mSeq (mAsg (mCall sp_draw noX (mCons (mVar 0) (mCons (mC (.int 3)) mNil))) (.nm 3)) b_links_3)
def b_links : TSm := (mSeq (mAsg (mCall sp_draw noX (mCons (mVar 0) (mCons (mC (.int 4)) mNil))) (.nm 2)) b_links_2)
theorem walk_links (T : Prg K mg) (g_draw : FnG P w K mg base 1 T.f_draw T.fd_draw ["_law_pen_here", "_law_bound"] sp_draw) {B : Bs} {cdv : Value} {A : Around} {outer : List Env} {s : Shared} {H : Hp} {xe : XK} (hr : Rm 1 (A.deeper (envOfC "_law_links" (defScope s_links) s.heap.objs.size T.f_links cdv))) :
    MSs B (cxOf (L2.CX P w) P w K mg base ["_law_pen_here", "_law_size_here", "_law_way", "_law_deep", "_law_rows", "_law_k", "_law_v", "_law_holder", "_law_row", "_law_a", "_law_b"] "_law_links" (defScope s_links) T.f_links cdv A outer s H xe).nox (defBody s_links) b_links :=
  (mss_cons (ms_set (i := 2) sc_links.nd rfl (by first | exact Or.inl rfl | exact Or.inr rfl) (m_call g_draw (hr.mono (by decide)) (by rfl) T.d_draw.mgx T.d_draw.kp T.d_draw.bd (ma_cons (mv 0) (ma_cons m_int ma_nil))))
    (mss_cons (ms_set (i := 3) sc_links.nd rfl (by first | exact Or.inl rfl | exact Or.inr rfl) (m_call g_draw (hr.mono (by decide)) (by rfl) T.d_draw.mgx T.d_draw.kp T.d_draw.bd (ma_cons (mv 0) (ma_cons m_int ma_nil))))
    (mss_cons (ms_setLc (i := 4) false rfl sc_links.nd rfl rfl rfl (mi_rng1 (by rfl) T.n_range (mv 1)) (blkOk_by (own := [("_law_k", 5)]) (by kernel_rfl)) (by decide) (fun _ _ _ _ _ => (mg_name (i := 5) sc_links.nd rfl (by first | exact Or.inl rfl | exact Or.inr rfl))) (fun _ _ _ _ _ => mts_nil) (fun _ _ _ _ _ => (m_lst true ma_nil)))
    (mss_cons (ms_for PassesOwn.never rfl (mi_rng2 (by rfl) T.n_range m_int (mv 1)) (mg_name (i := 6) sc_links.nd rfl (by first | exact Or.inl rfl | exact Or.inr rfl)) (mss_cons (ms_set (i := 7) sc_links.nd rfl (by first | exact Or.inl rfl | exact Or.inr rfl) (m_ix (m_lst false (ma_cons (m_call g_draw (hr.mono (by decide)) (by rfl) T.d_draw.mgx T.d_draw.kp T.d_draw.bd (ma_cons (mv 0) (ma_cons (mv 6) ma_nil))) (ma_cons (m_op o_sub (mv 6) m_int) (ma_cons (m_callB (c_max2 rfl) (by rfl) T.n_max bb_max (ma_cons m_int (ma_cons (m_op o_sub (m_op o_sub (mv 6) m_int) (m_call g_draw (hr.mono (by decide)) (by rfl) T.d_draw.mgx T.d_draw.kp T.d_draw.bd (ma_cons (mv 0) (ma_cons m_int ma_nil)))) ma_nil))) ma_nil)))) (mv 3)))
    (mss_cons (ms_set (i := 8) sc_links.nd rfl (by first | exact Or.inl rfl | exact Or.inr rfl) (m_ix (mv 4) (mv 7)))
    (mss_one (ms_expr (m_bm PySem.F.plainAttrs_list PySem.F.slot_list_insert PySem.F.type_list_insert mm_insert (mv 8) (ma_cons (m_call g_draw (hr.mono (by decide)) (by rfl) T.d_draw.mgx T.d_draw.kp T.d_draw.bd (ma_cons (mv 0) (ma_cons (m_op (o_add (own := false)) (m_callB c_len (by rfl) T.n_len bb_len (ma_cons (mv 8) ma_nil)) m_int) ma_nil))) (ma_cons (mv 6) ma_nil))))))))
    (mss_cons (ms_for PassesOwn.never rfl (mi_rng1 (by rfl) T.n_range (m_ix (m_lst false (ma_cons m_int (ma_cons (m_call g_draw (hr.mono (by decide)) (by rfl) T.d_draw.mgx T.d_draw.kp T.d_draw.bd (ma_cons (mv 0) (ma_cons m_int ma_nil))) (ma_cons (mv 1) (ma_cons (m_op (o_mul (own := false)) m_int (mv 1)) ma_nil))))) (mv 2))) (mg_name (i := 5) sc_links.nd rfl (by first | exact Or.inl rfl | exact Or.inr rfl)) (mss_cons (ms_set (i := 9) sc_links.nd rfl (by first | exact Or.inl rfl | exact Or.inr rfl) (m_call g_draw (hr.mono (by decide)) (by rfl) T.d_draw.mgx T.d_draw.kp T.d_draw.bd (ma_cons (mv 0) (ma_cons (mv 1) ma_nil))))
    (mss_cons (ms_set (i := 10) sc_links.nd rfl (by first | exact Or.inl rfl | exact Or.inr rfl) (m_call g_draw (hr.mono (by decide)) (by rfl) T.d_draw.mgx T.d_draw.kp T.d_draw.bd (ma_cons (mv 0) (ma_cons (mv 1) ma_nil))))
    (mss_cons (ms_if ((mw_and (mt_cmp o_le (mv 10) (mv 9)) (mw_and1 ((mw_or (mt_cmp o_lt (mv 2) m_int) (mw_or1 (mt_cmp o_gt (m_call g_draw (hr.mono (by decide)) (by rfl) T.d_draw.mgx T.d_draw.kp T.d_draw.bd (ma_cons (mv 0) (ma_cons m_int ma_nil))) m_int)))).mt))).mt (mss_one (ms_par (i := 9) (j := 10) rfl sc_links.nd rfl rfl (by decide) rfl rfl (m_callB (c_min2 rfl) (by rfl) T.n_min bb_min (ma_cons (mv 9) (ma_cons (mv 10) ma_nil))) (m_callB (c_min2 rfl) (by rfl) T.n_min bb_min (ma_cons (m_op o_sub (mv 1) m_int) (ma_cons (m_op (o_add (own := false)) (m_callB (c_max2 rfl) (by rfl) T.n_max bb_max (ma_cons (mv 9) (ma_cons (mv 10) ma_nil))) (m_callTy c_int (by rfl) T.n_int bb_int (ma_cons (m_cmp (o_eq hr.hu) (mv 9) (mv 10)) ma_nil))) ma_nil))))) mss_nil)
    (mss_cons (ms_set (i := 8) sc_links.nd rfl (by first | exact Or.inl rfl | exact Or.inr rfl) (m_ix (mv 4) (mv 9)))
    (mss_one (ms_if ((mw_and (mt_cmp o_lt (m_callB c_len (by rfl) T.n_len bb_len (ma_cons (mv 8) ma_nil)) m_int) (mw_and1 ((mw_or (mt_cmp (o_ne hr.hu) (mv 9) (mv 10)) (mw_or1 (mt_cmp (o_eq hr.hu) (mv 2) m_int)))).mt))).mt (mss_one (ms_expr (m_bm PySem.F.plainAttrs_list PySem.F.slot_list_insert PySem.F.type_list_insert mm_insert (mv 8) (ma_cons (m_call g_draw (hr.mono (by decide)) (by rfl) T.d_draw.mgx T.d_draw.kp T.d_draw.bd (ma_cons (mv 0) (ma_cons (m_op (o_add (own := false)) (m_callB c_len (by rfl) T.n_len bb_len (ma_cons (mv 8) ma_nil)) m_int) ma_nil))) (ma_cons (mv 10) ma_nil))))) mss_nil)))))))
    (mss_cons (ms_for PassesOwn.never rfl (mi_seq (mv 4)) (mg_name (i := 8) sc_links.nd rfl (by first | exact Or.inl rfl | exact Or.inr rfl)) (mss_one (ms_if (mt_cmp (o_eq hr.hu) (m_call g_draw (hr.mono (by decide)) (by rfl) T.d_draw.mgx T.d_draw.kp T.d_draw.bd (ma_cons (mv 0) (ma_cons m_int ma_nil))) m_int) (mss_one (ms_expr (m_bm PySem.F.plainAttrs_list PySem.F.slot_list_insert PySem.F.type_list_insert mm_insert (mv 8) (ma_cons (m_call g_draw (hr.mono (by decide)) (by rfl) T.d_draw.mgx T.d_draw.kp T.d_draw.bd (ma_cons (mv 0) (ma_cons (m_op (o_add (own := false)) (m_callB c_len (by rfl) T.n_len bb_len (ma_cons (mv 8) ma_nil)) m_int) ma_nil))) (ma_cons m_non ma_nil))))) mss_nil)))
    (mss_one (ms_ret (mv 4)))))))))
def b_heap_12 : TSm := (mRet (mTup (mCons (mTup (mCons (mCB mTupl (mCons (mVar 6) mNil)) (mCons (mCB mTupl (mCons (mVar 7) mNil)) mNil))) (mCons (mOp mIx (mVar 5) (mC (.int 0))) mNil))))
def b_heap_11 : TSm := (mSeq (mSetI (mOp mIx (mLst false (mCons (mC (.int 1)) (mCons (mC (.int 1)) (mCons (mC (.int 1)) (mCons (mC (.int 2)) (mCons (mC (.int 9)) mNil)))))) (mCall sp_draw noX (mCons (mVar 0) (mCons (mC (.int 5)) mNil)))) (mVar 7) (mOp mIx (mVar 5) (mC (.int 0)))) b_heap_12)
def b_heap_10 : TSm := (mSetI (mOp (mAdd false) (mC (.int 1)) (mCall sp_draw noX (mCons (mVar 0) (mCons (mC (.int 9)) mNil)))) (mVar 7) (mOp mIx (mVar 5) (mVar 8)))
def b_heap_9 : TSm := (mIfS (mAndT (mTest (mOp mGt (mVar 8) (mC (.int 0)))) (mTest (mOp mEq (mCall sp_draw noX (mCons (mVar 0) (mCons (mC (.int 9)) mNil))) (mC (.int 0))))) b_heap_10 mNext)
def b_heap_8 : TSm := (mSeq (mSetI (mCB mTupl (mCons (mLc false (mSeqI (mOp mIx (mVar 3) (mVar 8))) (.nm 9) mYes (mIf (mTest (mOp mIsN (mVar 9) (mC .non))) (mC .non) (mOp mIx (mVar 5) (mVar 9))) [9]) mNil)) (mVar 6) (mOp mIx (mVar 5) (mVar 8))) b_heap_9)
def b_heap_7 : TSm := (mSeq (mFor (mRng1 (mVar 2)) (.nm 8) b_heap_8) b_heap_11)
def b_heap_6 : TSm := (mSeq (mAsg (mOp (mMul true) (mLst false (mCons (mC (.int 0)) mNil)) (mOp (mAdd false) (mVar 2) (mVar 4))) (.nm 7)) b_heap_7)
def b_heap_5 : TSm := (mSeq (mAsg (mOp (mMul true) (mLst false (mCons (mC .non) mNil)) (mOp (mAdd false) (mVar 2) (mVar 4))) (.nm 6)) b_heap_6)
def b_heap_4 : TSm := (mSeq (mAsg (mCall sp_order noX (mCons (mVar 0) (mCons (mOp (mAdd false) (mVar 2) (mVar 4)) mNil))) (.nm 5)) b_heap_5)
def b_heap_3 : TSm := (mSeq (mAsg (mCB mMin2 (mCons (mOp mSub (mC (.int 40)) (mVar 2)) (mCons (mOp mIx (mLst false (mCons (mC (.int 0)) (mCons (mC (.int 0)) (mCons (mC (.int 1)) (mCons (mCall sp_draw noX (mCons (mVar 0) (mCons (mC (.int 4)) mNil))) mNil))))) (mCall sp_draw noX (mCons (mVar 0) (mCons (mC (.int 4)) mNil)))) mNil))) (.nm 4)) b_heap_4)
def b_heap_2 : TSm := (mSeq (mAsg (mCall sp_links noX (mCons (mVar 0) (mCons (mVar 2) mNil))) (.nm 3)) b_heap_3)
def b_heap : TSm := (mSeq (mAsg (mCall sp_size noX (mCons (mVar 0) (mCons (mVar 1) mNil))) (.nm 2)) b_heap_2)
theorem walk_heap (T : Prg K mg) (g_size : FnG P w K mg base 2 T.f_size T.fd_size ["_law_pen_here", "_law_most"] sp_size) (g_links : FnG P w K mg base 2 T.f_links T.fd_links ["_law_pen_here", "_law_size_here"] sp_links) (g_order : FnG P w K mg base 2 T.f_order T.fd_order ["_law_pen_here", "_law_size_here"] sp_order) (g_draw : FnG P w K mg base 1 T.f_draw T.fd_draw ["_law_pen_here", "_law_bound"] sp_draw) {B : Bs} {cdv : Value} {A : Around} {outer : List Env} {s : Shared} {H : Hp} {xe : XK} (hr : Rm 2 (A.deeper (envOfC "_law_heap" (defScope s_heap) s.heap.objs.size T.f_heap cdv))) :
    MSs B (cxOf (L2.CX P w) P w K mg base ["_law_pen_here", "_law_most", "_law_size_here", "_law_rows", "_law_spare", "_law_names", "_law_slots", "_law_outside", "_law_v", "_law_held"] "_law_heap" (defScope s_heap) T.f_heap cdv A outer s H xe).nox (defBody s_heap) b_heap :=
  (mss_cons (ms_set (i := 2) sc_heap.nd rfl (by first | exact Or.inl rfl | exact Or.inr rfl) (m_call g_size (hr.mono (by decide)) (by rfl) T.d_size.mgx T.d_size.kp T.d_size.bd (ma_cons (mv 0) (ma_cons (mv 1) ma_nil))))
    (mss_cons (ms_set (i := 3) sc_heap.nd rfl (by first | exact Or.inl rfl | exact Or.inr rfl) (m_call g_links (hr.mono (by decide)) (by rfl) T.d_links.mgx T.d_links.kp T.d_links.bd (ma_cons (mv 0) (ma_cons (mv 2) ma_nil))))
    (mss_cons (ms_set (i := 4) sc_heap.nd rfl (by first | exact Or.inl rfl | exact Or.inr rfl) (m_callB (c_min2 rfl) (by rfl) T.n_min bb_min (ma_cons (m_op o_sub m_int (mv 2)) (ma_cons (m_ix (m_lst false (ma_cons m_int (ma_cons m_int (ma_cons m_int (ma_cons (m_call g_draw (hr.mono (by decide)) (by rfl) T.d_draw.mgx T.d_draw.kp T.d_draw.bd (ma_cons (mv 0) (ma_cons m_int ma_nil))) ma_nil))))) (m_call g_draw (hr.mono (by decide)) (by rfl) T.d_draw.mgx T.d_draw.kp T.d_draw.bd (ma_cons (mv 0) (ma_cons m_int ma_nil)))) ma_nil))))
    (mss_cons (ms_set (i := 5) sc_heap.nd rfl (by first | exact Or.inl rfl | exact Or.inr rfl) (m_call g_order (hr.mono (by decide)) (by rfl) T.d_order.mgx T.d_order.kp T.d_order.bd (ma_cons (mv 0) (ma_cons (m_op (o_add (own := false)) (mv 2) (mv 4)) ma_nil))))
    (mss_cons (ms_set (i := 6) sc_heap.nd rfl (by first | exact Or.inl rfl | exact Or.inr rfl) (m_op (o_mul (own := true)) (m_lst false (ma_cons m_non ma_nil)) (m_op (o_add (own := false)) (mv 2) (mv 4))))
    (mss_cons (ms_set (i := 7) sc_heap.nd rfl (by first | exact Or.inl rfl | exact Or.inr rfl) (m_op (o_mul (own := true)) (m_lst false (ma_cons m_int ma_nil)) (m_op (o_add (own := false)) (mv 2) (mv 4))))
    (mss_cons (ms_for PassesOwn.never rfl (mi_rng1 (by rfl) T.n_range (mv 2)) (mg_name (i := 8) sc_heap.nd rfl (by first | exact Or.inl rfl | exact Or.inr rfl)) (mss_cons (ms_setI (m_callTy c_tuple (by rfl) T.n_tuple bb_tuple (ma_cons (m_lc false rfl sc_heap.nd (mi_seq (m_ix (mv 3) (mv 8))) (blkOk_by (own := [("_law_held", 9)]) (by kernel_rfl)) (by decide) (fun _ _ _ _ _ => (mg_name (i := 9) sc_heap.nd rfl (by first | exact Or.inl rfl | exact Or.inr rfl))) (fun _ _ _ _ _ => mts_nil) (fun _ _ _ _ _ => (m_ifE (mt_cmp o_isN (mv 9) m_non) m_non (m_ix (mv 5) (mv 9))))) ma_nil)) (mv 6) (m_ix (mv 5) (mv 8)))
    (mss_one (ms_if ((mw_and (mt_cmp o_gt (mv 8) m_int) (mw_and1 (mt_cmp (o_eq hr.hu) (m_call g_draw (hr.mono (by decide)) (by rfl) T.d_draw.mgx T.d_draw.kp T.d_draw.bd (ma_cons (mv 0) (ma_cons m_int ma_nil))) m_int)))).mt (mss_one (ms_setI (m_op (o_add (own := false)) m_int (m_call g_draw (hr.mono (by decide)) (by rfl) T.d_draw.mgx T.d_draw.kp T.d_draw.bd (ma_cons (mv 0) (ma_cons m_int ma_nil)))) (mv 7) (m_ix (mv 5) (mv 8)))) mss_nil))))
    (mss_cons (ms_setI (m_ix (m_lst false (ma_cons m_int (ma_cons m_int (ma_cons m_int (ma_cons m_int (ma_cons m_int ma_nil)))))) (m_call g_draw (hr.mono (by decide)) (by rfl) T.d_draw.mgx T.d_draw.kp T.d_draw.bd (ma_cons (mv 0) (ma_cons m_int ma_nil)))) (mv 7) (m_ix (mv 5) m_int))
    (mss_one (ms_ret (m_tup (ma_cons (m_tup (ma_cons (m_callTy c_tuple (by rfl) T.n_tuple bb_tuple (ma_cons (mv 6) ma_nil)) (ma_cons (m_callTy c_tuple (by rfl) T.n_tuple bb_tuple (ma_cons (mv 7) ma_nil)) ma_nil))) (ma_cons (m_ix (mv 5) m_int) ma_nil)))))))))))))
def b_children_11 : TSm := (mRet (mCB mTupl (mCons (mVar 8) mNil)))
def b_children_10 : TSm := (mSetI (mCB mTupl (mCons (mOp mIx (mVar 5) (mVar 6)) mNil)) (mVar 8) (mOp mIx (mVar 3) (mVar 6)))
def b_children_9 : TSm := (mSeq (mFor (mRng1 (mVar 2)) (.nm 6) b_children_10) b_children_11)
def b_children_8 : TSm := (mSeq (mAsg (mOp (mMul true) (mLst false (mCons (mTup mNil) mNil)) (mVar 2)) (.nm 8)) b_children_9)
def b_children_7 : TSm := (mDrop (mBM "list" mInsert (mVar 7) (mCons (mCall sp_draw noX (mCons (mVar 0) (mCons (mOp (mAdd false) (mCB mLen (mCons (mVar 7) mNil)) (mC (.int 1))) mNil))) (mCons (mOp mIx (mVar 3) (mVar 6)) mNil))))
def b_children_6 : TSm := (mSeq (mAsg (mOp mIx (mVar 5) (mOp mIx (mLst false (mCons (mCall sp_draw noX (mCons (mVar 0) (mCons (mVar 6) mNil))) (mCons (mOp mSub (mVar 6) (mC (.int 1))) (mCons (mC (.int 0)) mNil)))) (mVar 4))) (.nm 7)) b_children_7)
def b_children_5 : TSm := (mSeq (mFor (mRng2 (mC (.int 1)) (mVar 2)) (.nm 6) b_children_6) b_children_8)
def b_children_4 : TSm := (mSeq (mAsg (mLc false (mRng1 (mVar 2)) (.nm 6) mYes (mLst true mNil) [6]) (.nm 5)) b_children_5)
def b_children_3 : TSm := (mSeq (mAsg (mCall sp_draw noX (mCons (mVar 0) (mCons (mC (.int 3)) mNil))) (.nm 4)) b_children_4)
def b_children_2 : TSm := (mSeq (mAsg (mCall sp_order noX (mCons (mVar 0) (mCons (mVar 2) mNil))) (.nm 3)) b_children_3)
def b_children : TSm := (mSeq (mAsg (mCall sp_size noX (mCons (mVar 0) (mCons (mVar 1) mNil))) (.nm 2)) b_children_2)
theorem walk_children (T : Prg K mg) (g_size : FnG P w K mg base 2 T.f_size T.fd_size ["_law_pen_here", "_law_most"] sp_size) (g_order : FnG P w K mg base 2 T.f_order T.fd_order ["_law_pen_here", "_law_size_here"] sp_order) (g_draw : FnG P w K mg base 1 T.f_draw T.fd_draw ["_law_pen_here", "_law_bound"] sp_draw) {B : Bs} {cdv : Value} {A : Around} {outer : List Env} {s : Shared} {H : Hp} {xe : XK} (hr : Rm 2 (A.deeper (envOfC "_law_children" (defScope s_children) s.heap.objs.size T.f_children cdv))) :
    MSs B (cxOf (L2.CX P w) P w K mg base ["_law_pen_here", "_law_most", "_law_size_here", "_law_names", "_law_deep", "_law_rows", "_law_k", "_law_row", "_law_found"] "_law_children" (defScope s_children) T.f_children cdv A outer s H xe).nox (defBody s_children) b_children :=
  (mss_cons (ms_set (i := 2) sc_children.nd rfl (by first | exact Or.inl rfl | exact Or.inr rfl) (m_call g_size (hr.mono (by decide)) (by rfl) T.d_size.mgx T.d_size.kp T.d_size.bd (ma_cons (mv 0) (ma_cons (mv 1) ma_nil))))
    (mss_cons (ms_set (i := 3) sc_children.nd rfl (by first | exact Or.inl rfl | exact Or.inr rfl) (m_call g_order (hr.mono (by decide)) (by rfl) T.d_order.mgx T.d_order.kp T.d_order.bd (ma_cons (mv 0) (ma_cons (mv 2) ma_nil))))
    (mss_cons (ms_set (i := 4) sc_children.nd rfl (by first | exact Or.inl rfl | exact Or.inr rfl) (m_call g_draw (hr.mono (by decide)) (by rfl) T.d_draw.mgx T.d_draw.kp T.d_draw.bd (ma_cons (mv 0) (ma_cons m_int ma_nil))))
    (mss_cons (ms_setLc (i := 5) false rfl sc_children.nd rfl rfl rfl (mi_rng1 (by rfl) T.n_range (mv 2)) (blkOk_by (own := [("_law_k", 6)]) (by kernel_rfl)) (by decide) (fun _ _ _ _ _ => (mg_name (i := 6) sc_children.nd rfl (by first | exact Or.inl rfl | exact Or.inr rfl))) (fun _ _ _ _ _ => mts_nil) (fun _ _ _ _ _ => (m_lst true ma_nil)))
    (mss_cons (ms_for PassesOwn.never rfl (mi_rng2 (by rfl) T.n_range m_int (mv 2)) (mg_name (i := 6) sc_children.nd rfl (by first | exact Or.inl rfl | exact Or.inr rfl)) (mss_cons (ms_set (i := 7) sc_children.nd rfl (by first | exact Or.inl rfl | exact Or.inr rfl) (m_ix (mv 5) (m_ix (m_lst false (ma_cons (m_call g_draw (hr.mono (by decide)) (by rfl) T.d_draw.mgx T.d_draw.kp T.d_draw.bd (ma_cons (mv 0) (ma_cons (mv 6) ma_nil))) (ma_cons (m_op o_sub (mv 6) m_int) (ma_cons m_int ma_nil)))) (mv 4))))
    (mss_one (ms_expr (m_bm PySem.F.plainAttrs_list PySem.F.slot_list_insert PySem.F.type_list_insert mm_insert (mv 7) (ma_cons (m_call g_draw (hr.mono (by decide)) (by rfl) T.d_draw.mgx T.d_draw.kp T.d_draw.bd (ma_cons (mv 0) (ma_cons (m_op (o_add (own := false)) (m_callB c_len (by rfl) T.n_len bb_len (ma_cons (mv 7) ma_nil)) m_int) ma_nil))) (ma_cons (m_ix (mv 3) (mv 6)) ma_nil)))))))
    (mss_cons (ms_set (i := 8) sc_children.nd rfl (by first | exact Or.inl rfl | exact Or.inr rfl) (m_op (o_mul (own := true)) (m_lst false (ma_cons (m_tup ma_nil) ma_nil)) (mv 2)))
    (mss_cons (ms_for PassesOwn.never rfl (mi_rng1 (by rfl) T.n_range (mv 2)) (mg_name (i := 6) sc_children.nd rfl (by first | exact Or.inl rfl | exact Or.inr rfl)) (mss_one (ms_setI (m_callTy c_tuple (by rfl) T.n_tuple bb_tuple (ma_cons (m_ix (mv 5) (mv 6)) ma_nil)) (mv 8) (m_ix (mv 3) (mv 6)))))
    (mss_one (ms_ret (m_callTy c_tuple (by rfl) T.n_tuple bb_tuple (ma_cons (mv 8) ma_nil)))))))))))
def b_heap_text_9 : TSm := (mRet (mBM "str" mJoin (mC (.str "\n")) (mCons (mVar 1) mNil)))
def b_heap_text_8 : TSm := (mDrop (mBM "list" mAppend (mVar 1) (mCons (mVar 4) mNil)))
def b_heap_text_7 : TSm := (mAsg (mOp (mAdd false) (mOp (mAdd false) (mVar 4) (mC (.str " "))) (mOp mIx (mLst false (mCons (mC (.str "-")) (mCons (mCB mStr (mCons (mVar 5) mNil)) mNil))) (mCB mInt (mCons (mOp mNotN (mVar 5) (mC .non)) mNil)))) (.nm 4))
def b_heap_text_6 : TSm := (mFor (mSeqI (mVar 3)) (.nm 5) b_heap_text_7)
def b_heap_text_5 : TSm := (mSeq (mAsg (mCB mStr (mCons (mOp mIx (mOp mIx (mVar 0) (mC (.int 1))) (mVar 2)) mNil)) (.nm 4)) b_heap_text_6)
def b_heap_text_4 : TSm := (mSeq (mIfS (mTest (mOp mNotN (mVar 3) (mC .non))) b_heap_text_5 mNext) b_heap_text_8)
def b_heap_text_3 : TSm := (mSeq (mAsg (mC (.str "free")) (.nm 4)) b_heap_text_4)
def b_heap_text_2 : TSm := (mSeq (mFor (mEnum (mOp mIx (mVar 0) (mC (.int 0)))) (.tp [(.nm 2), (.nm 3)]) b_heap_text_3) b_heap_text_9)
def b_heap_text : TSm := (mSeq (mAsg (mLst true mNil) (.nm 1)) b_heap_text_2)
theorem walk_heap_text (T : Prg K mg)  {B : Bs} {cdv : Value} {A : Around} {outer : List Env} {s : Shared} {H : Hp} {xe : XK} (hr : Rm 0 (A.deeper (envOfC "_law_heap_text" (defScope s_heap_text) s.heap.objs.size T.f_heap_text cdv))) :
    MSs B (cxOf (L2.CX P w) P w K mg base ["_law_home", "_law_lines", "_law_v", "_law_row", "_law_line", "_law_held"] "_law_heap_text" (defScope s_heap_text) T.f_heap_text cdv A outer s H xe).nox (defBody s_heap_text) b_heap_text :=
  (mss_cons (ms_set (i := 1) sc_heap_text.nd rfl (by first | exact Or.inl rfl | exact Or.inr rfl) (m_lst true ma_nil))
    (mss_cons (ms_for PassesOwn.never rfl (mi_enum (by rfl) T.n_enumerate (m_ix (mv 0) m_int)) (mg_tup rfl (mgs_cons (mg_name (i := 2) sc_heap_text.nd rfl (by first | exact Or.inl rfl | exact Or.inr rfl)) (mgs_cons (mg_name (i := 3) sc_heap_text.nd rfl (by first | exact Or.inl rfl | exact Or.inr rfl)) mgs_nil))) (mss_cons (ms_set (i := 4) sc_heap_text.nd rfl (by first | exact Or.inl rfl | exact Or.inr rfl) m_str)
    (mss_cons (ms_if (mt_cmp o_notN (mv 3) m_non) (mss_cons (ms_set (i := 4) sc_heap_text.nd rfl (by first | exact Or.inl rfl | exact Or.inr rfl) (m_callTy c_str (by rfl) T.n_str bb_str (ma_cons (m_ix (m_ix (mv 0) m_int) (mv 2)) ma_nil)))
    (mss_one (ms_for PassesOwn.never rfl (mi_seq (mv 3)) (mg_name (i := 5) sc_heap_text.nd rfl (by first | exact Or.inl rfl | exact Or.inr rfl)) (mss_one (ms_set (i := 4) sc_heap_text.nd rfl (by first | exact Or.inl rfl | exact Or.inr rfl) (m_op (o_add (own := false)) (m_op (o_add (own := false)) (mv 4) m_str) (m_ix (m_lst false (ma_cons m_str (ma_cons (m_callTy c_str (by rfl) T.n_str bb_str (ma_cons (mv 5) ma_nil)) ma_nil))) (m_callTy c_int (by rfl) T.n_int bb_int (ma_cons (m_cmp o_notN (mv 5) m_non) ma_nil))))))))) mss_nil)
    (mss_one (ms_expr (m_bm PySem.F.plainAttrs_list PySem.F.slot_list_append PySem.F.type_list_append mm_append (mv 1) (ma_cons (mv 4) ma_nil)))))))
    (mss_one (ms_ret (m_bm PySem.F.plainAttrs_str PySem.F.slot_str_join PySem.F.type_str_join mm_join m_str (ma_cons (mv 1) ma_nil))))))
def b_numbers_text_3 : TSm := (mRet (mBM "str" mJoin (mC (.str " ")) (mCons (mLc false (mSeqI (mVar 0)) (.nm 1) mYes (mCB mStr (mCons (mVar 1) mNil)) [1]) mNil)))
def b_numbers_text_2 : TSm := (mRet (mC (.str "-")))
def b_numbers_text : TSm := (mSeq (mIfS (mTest (mOp mEq (mCB mLen (mCons (mVar 0) mNil)) (mC (.int 0)))) b_numbers_text_2 mNext) b_numbers_text_3)
theorem walk_numbers_text (T : Prg K mg)  {B : Bs} {cdv : Value} {A : Around} {outer : List Env} {s : Shared} {H : Hp} {xe : XK} (hr : Rm 0 (A.deeper (envOfC "_law_numbers_text" (defScope s_numbers_text) s.heap.objs.size T.f_numbers_text cdv))) :
    MSs B (cxOf (L2.CX P w) P w K mg base ["_law_some", "_law_k"] "_law_numbers_text" (defScope s_numbers_text) T.f_numbers_text cdv A outer s H xe).nox (defBody s_numbers_text) b_numbers_text :=
  (mss_cons (ms_if (mt_cmp (o_eq hr.hu) (m_callB c_len (by rfl) T.n_len bb_len (ma_cons (mv 0) ma_nil)) m_int) (mss_one (ms_ret m_str)) mss_nil)
    (mss_one (ms_ret (m_bm PySem.F.plainAttrs_str PySem.F.slot_str_join PySem.F.type_str_join mm_join m_str (ma_cons (m_lc false rfl sc_numbers_text.nd (mi_seq (mv 0)) (blkOk_by (own := [("_law_k", 1)]) (by kernel_rfl)) (by decide) (fun _ _ _ _ _ => (mg_name (i := 1) sc_numbers_text.nd rfl (by first | exact Or.inl rfl | exact Or.inr rfl))) (fun _ _ _ _ _ => mts_nil) (fun _ _ _ _ _ => (m_callTy c_str (by rfl) T.n_str bb_str (ma_cons (mv 1) ma_nil)))) ma_nil)))))
def b_tree_text : TSm := (mRet (mBM "str" mJoin (mC (.str "\n")) (mCons (mLc false (mSeqI (mVar 0)) (.nm 1) mYes (mCall sp_numbers_text noX (mCons (mVar 1) mNil)) [1]) mNil)))
theorem walk_tree_text (T : Prg K mg) (g_numbers_text : FnG P w K mg base 1 T.f_numbers_text T.fd_numbers_text ["_law_some"] sp_numbers_text) {B : Bs} {cdv : Value} {A : Around} {outer : List Env} {s : Shared} {H : Hp} {xe : XK} (hr : Rm 1 (A.deeper (envOfC "_law_tree_text" (defScope s_tree_text) s.heap.objs.size T.f_tree_text cdv))) :
    MSs B (cxOf (L2.CX P w) P w K mg base ["_law_given", "_law_row"] "_law_tree_text" (defScope s_tree_text) T.f_tree_text cdv A outer s H xe).nox (defBody s_tree_text) b_tree_text :=
  (mss_one (ms_ret (m_bm PySem.F.plainAttrs_str PySem.F.slot_str_join PySem.F.type_str_join mm_join m_str (ma_cons (m_lc false rfl sc_tree_text.nd (mi_seq (mv 0)) (blkOk_by (own := [("_law_row", 1)]) (by kernel_rfl)) (by decide) (fun _ _ _ _ _ => (mg_name (i := 1) sc_tree_text.nd rfl (by first | exact Or.inl rfl | exact Or.inr rfl))) (fun _ _ _ _ _ => mts_nil) (fun _ _ _ _ _ => (m_call g_numbers_text (hr.mono (by decide)) (by rfl) T.d_numbers_text.mgx T.d_numbers_text.kp T.d_numbers_text.bd (ma_cons (mv 1) ma_nil)))) ma_nil))))
def b_right_7 : TSm := (mRet (mOp mEq (mCB mRepr (mCons (mTup (mCons (mVar 0) (mCons (mVar 1) (mCons (mVar 2) mNil)))) mNil)) (mVar 3)))
def b_right_6 : TSm := (mRet (mC (.bl false)))
def b_right_5 : TSm := (mSeq (mIfS (mTest (mOp mNe (mLst false (mCons (mCallK sp_format_heap noX (fun us ws => us ++ ws) 0 1 mNil (mCons (mVar 0) mNil)) (mCons (mCallK sp_format_tree noX (fun us ws => us ++ ws) 0 1 mNil (mCons (mVar 1) mNil)) (mCons (mCallK sp_format_log noX (fun us ws => us ++ ws) 0 1 mNil (mCons (mVar 2) mNil)) mNil)))) (mVar 4))) b_right_6 mNext) b_right_7)
def b_right_4 : TSm := (mRet (mC (.bl false)))
def b_right_3 : TSm := (mSeq (mIfS (mTest (mOp mNe (mLst false (mCons (mCall sp_format_heap noX (mCons (mVar 0) mNil)) (mCons (mCall sp_format_tree noX (mCons (mVar 1) mNil)) (mCons (mCall sp_format_log noX (mCons (mVar 2) mNil)) mNil)))) (mVar 4))) b_right_4 mNext) b_right_5)
def b_right_2 : TSm := (mSeq (mAsg (mLst false (mCons (mCall sp_heap_text noX (mCons (mVar 0) mNil)) (mCons (mCall sp_tree_text noX (mCons (mVar 1) mNil)) (mCons (mCall sp_numbers_text noX (mCons (mVar 2) mNil)) mNil)))) (.nm 4)) b_right_3)
def b_right : TSm := (mSeq (mAsg (mCB mRepr (mCons (mTup (mCons (mVar 0) (mCons (mVar 1) (mCons (mVar 2) mNil)))) mNil)) (.nm 3)) b_right_2)
theorem walk_right (T : Prg K mg) (g_heap_text : FnG P w K mg base 1 T.f_heap_text T.fd_heap_text ["_law_home"] sp_heap_text) (g_tree_text : FnG P w K mg base 2 T.f_tree_text T.fd_tree_text ["_law_given"] sp_tree_text) (g_numbers_text : FnG P w K mg base 1 T.f_numbers_text T.fd_numbers_text ["_law_some"] sp_numbers_text) (g_format_heap : FnG P w K mg base 2 T.f_format_heap T.fd_format_heap ["heap"] sp_format_heap) (g_format_tree : FnG P w K mg base 2 T.f_format_tree T.fd_format_tree ["tree"] sp_format_tree) (g_format_log : FnG P w K mg base 2 T.f_format_log T.fd_format_log ["log"] sp_format_log) {B : Bs} {cdv : Value} {A : Around} {outer : List Env} {s : Shared} {H : Hp} {xe : XK} (hr : Rm 2 (A.deeper (envOfC "_law_right" (defScope s_right) s.heap.objs.size T.f_right cdv))) :
    MSs B (cxOf (L2.CX P w) P w K mg base ["_law_home", "_law_given", "_law_some", "_law_state", "_law_due"] "_law_right" (defScope s_right) T.f_right cdv A outer s H xe).nox (defBody s_right) b_right :=
  (mss_cons (ms_set (i := 3) sc_right.nd rfl (by first | exact Or.inl rfl | exact Or.inr rfl) (m_callB (c_repr hr) (by rfl) T.n_repr bb_repr (ma_cons (m_tup (ma_cons (mv 0) (ma_cons (mv 1) (ma_cons (mv 2) ma_nil)))) ma_nil)))
    (mss_cons (ms_set (i := 4) sc_right.nd rfl (by first | exact Or.inl rfl | exact Or.inr rfl) (m_lst false (ma_cons (m_call g_heap_text (hr.mono (by decide)) (by rfl) T.d_heap_text.mgx T.d_heap_text.kp T.d_heap_text.bd (ma_cons (mv 0) ma_nil)) (ma_cons (m_call g_tree_text (hr.mono (by decide)) (by rfl) T.d_tree_text.mgx T.d_tree_text.kp T.d_tree_text.bd (ma_cons (mv 1) ma_nil)) (ma_cons (m_call g_numbers_text (hr.mono (by decide)) (by rfl) T.d_numbers_text.mgx T.d_numbers_text.kp T.d_numbers_text.bd (ma_cons (mv 2) ma_nil)) ma_nil)))))
    (mss_cons (ms_if (mt_cmp (o_ne hr.hu) (m_lst false (ma_cons (m_call g_format_heap (hr.mono (by decide)) (by rfl) T.d_format_heap.mgx T.d_format_heap.kp T.d_format_heap.bd (ma_cons (mv 0) ma_nil)) (ma_cons (m_call g_format_tree (hr.mono (by decide)) (by rfl) T.d_format_tree.mgx T.d_format_tree.kp T.d_format_tree.bd (ma_cons (mv 1) ma_nil)) (ma_cons (m_call g_format_log (hr.mono (by decide)) (by rfl) T.d_format_log.mgx T.d_format_log.kp T.d_format_log.bd (ma_cons (mv 2) ma_nil)) ma_nil)))) (mv 4)) (mss_one (ms_ret m_bl)) mss_nil)
    (mss_cons (ms_if (mt_cmp (o_ne hr.hu) (m_lst false (ma_cons (m_callK0E passX_no g_format_heap (hr.mono (by decide)) (by rfl) T.d_format_heap.mgx T.d_format_heap.kp (kb_app (ks := ["heap"]) (n := 0) T.d_format_heap.fn fun _ _ _ _ _ _ us ws h1 h2 => match us, h1, ws, h2 with | [], _, [_], _ => rfl) (mk_cons (mv 0) mk_nil)) (ma_cons (m_callK0E passX_no g_format_tree (hr.mono (by decide)) (by rfl) T.d_format_tree.mgx T.d_format_tree.kp (kb_app (ks := ["tree"]) (n := 0) T.d_format_tree.fn fun _ _ _ _ _ _ us ws h1 h2 => match us, h1, ws, h2 with | [], _, [_], _ => rfl) (mk_cons (mv 1) mk_nil)) (ma_cons (m_callK0E passX_no g_format_log (hr.mono (by decide)) (by rfl) T.d_format_log.mgx T.d_format_log.kp (kb_app (ks := ["log"]) (n := 0) T.d_format_log.fn fun _ _ _ _ _ _ us ws h1 h2 => match us, h1, ws, h2 with | [], _, [_], _ => rfl) (mk_cons (mv 2) mk_nil)) ma_nil)))) (mv 4)) (mss_one (ms_ret m_bl)) mss_nil)
    (mss_one (ms_ret (m_cmp (o_eq hr.hu) (m_callB (c_repr hr) (by rfl) T.n_repr bb_repr (ma_cons (m_tup (ma_cons (mv 0) (ma_cons (mv 1) (ma_cons (mv 2) ma_nil)))) ma_nil)) (mv 3))))))))
def b_law_13 : TSm := (mRet (mCall sp_right noX (mCons (mTup (mCons (mTup (mCons (mC .non) mNil)) (mCons (mTup (mCons (mC (.int 0)) mNil)) mNil))) (mCons (mTup (mCons (mTup mNil) mNil)) (mCons (mTup mNil) mNil)))))
def b_law_12 : TSm := (mRet (mC (.bl false)))
def b_law_11 : TSm := (mSeq (mIfS (mOrT (mNotT (mTruT (mCall sp_right noX (mCons (mVar 3) (mCons (mTup (mCons (mTup mNil) mNil)) (mCons (mLst false mNil) mNil)))))) (mNotT (mTruT (mCall sp_right noX (mCons (mTup (mCons (mTup mNil) (mCons (mTup mNil) mNil))) (mCons (mTup (mCons (mTup (mCons (mC (.int 1)) mNil)) (mCons (mTup mNil) mNil))) (mCons (mTup (mCons (mC (.int 0)) mNil)) mNil))))))) b_law_12 mNext) b_law_13)
def b_law_10 : TSm := (mSeq (mAsg (mTup (mCons (mOp (mMul false) (mTup (mCons (mTupRg1 (mC (.int 40))) mNil)) (mC (.int 40))) (mCons (mOp (mMul false) (mTup (mCons (mC (.int 9)) mNil)) (mC (.int 40))) mNil))) (.nm 3)) b_law_11)
def b_law_9 : TSm := (mRet (mC (.bl false)))
def b_law_8 : TSm := (mIfS (mNotT (mTruT (mCall sp_right noX (mCons (mVar 3) (mCons (mVar 5) (mCons (mVar 6) mNil)))))) b_law_9 mNext)
def b_law_7 : TSm := (mAsg (mCB mTupl (mCons (mVar 6) mNil)) (.nm 6))
def b_law_6 : TSm := (mSeq (mIfS (mTest (mOp mEq (mCall sp_draw noX (mCons (mVar 1) (mCons (mC (.int 2)) mNil))) (mC (.int 0)))) b_law_7 mNext) b_law_8)
def b_law_5 : TSm := (mSeq (mAsg (mLc false (mRng1 (mCall sp_draw noX (mCons (mVar 1) (mCons (mC (.int 41)) mNil)))) (.nm 7) mYes (mCall sp_draw noX (mCons (mVar 1) (mCons (mOp mIx (mLst false (mCons (mC (.int 10)) (mCons (mC (.int 41)) (mCons (mOp mPow (mC (.int 10)) (mC (.int 30))) mNil)))) (mCall sp_draw noX (mCons (mVar 1) (mCons (mC (.int 3)) mNil)))) mNil))) [7]) (.nm 6)) b_law_6)
def b_law_4 : TSm := (mSeq (mAsg (mCall sp_children noX (mCons (mVar 1) (mCons (mVar 2) mNil))) (.nm 5)) b_law_5)
def b_law_3 : TSm := (mSeq (mAsg (mCall sp_heap noX (mCons (mVar 1) (mCons (mVar 2) mNil))) (.tp [(.nm 3), (.nm 4)])) b_law_4)
def b_law_2 : TSm := (mSeq (mFor (mSeqI (mTup (mCons (mC (.int 12)) (mCons (mC (.int 40)) mNil)))) (.nm 2) b_law_3) b_law_10)
def b_law : TSm := (mSeq (mAsg (mCall sp_pen noX (mCons (mVar 0) mNil)) (.nm 1)) b_law_2)
theorem walk_law (T : Prg K mg) (g_pen : FnG P w K mg base 1 T.f_pen T.fd_pen ["_law_script"] sp_pen) (g_right : FnG P w K mg base 3 T.f_right T.fd_right ["_law_home", "_law_given", "_law_some"] sp_right) (g_heap : FnG P w K mg base 3 T.f_heap T.fd_heap ["_law_pen_here", "_law_most"] sp_heap) (g_children : FnG P w K mg base 3 T.f_children T.fd_children ["_law_pen_here", "_law_most"] sp_children) (g_draw : FnG P w K mg base 1 T.f_draw T.fd_draw ["_law_pen_here", "_law_bound"] sp_draw) {B : Bs} {cdv : Value} {A : Around} {outer : List Env} {s : Shared} {H : Hp} {xe : XK} (hr : Rm 3 (A.deeper (envOfC "law" (defScope s_law) s.heap.objs.size T.f_law cdv))) :
    MSs B (cxOf (L2.CX P w) P w K mg base ["_law_script", "_law_pen_here", "_law_most", "_law_home", "_law_spot", "_law_given", "_law_some", "_law_k"] "law" (defScope s_law) T.f_law cdv A outer s H xe).nox (defBody s_law) b_law :=
  (mss_cons (ms_set (i := 1) sc_law.nd rfl (by first | exact Or.inl rfl | exact Or.inr rfl) (m_call g_pen (hr.mono (by decide)) (by rfl) T.d_pen.mgx T.d_pen.kp T.d_pen.bd (ma_cons (mv 0) ma_nil)))
    (mss_cons (ms_for PassesOwn.never rfl (mi_seq (m_tup (ma_cons m_int (ma_cons m_int ma_nil)))) (mg_name (i := 2) sc_law.nd rfl (by first | exact Or.inl rfl | exact Or.inr rfl)) (mss_cons (ms_asg (m_call g_heap (hr.mono (by decide)) (by rfl) T.d_heap.mgx T.d_heap.kp T.d_heap.bd (ma_cons (mv 1) (ma_cons (mv 2) ma_nil))) (mg_tup rfl (mgs_cons (mg_name (i := 3) sc_law.nd rfl (by first | exact Or.inl rfl | exact Or.inr rfl)) (mgs_cons (mg_name (i := 4) sc_law.nd rfl (by first | exact Or.inl rfl | exact Or.inr rfl)) mgs_nil))))
    (mss_cons (ms_set (i := 5) sc_law.nd rfl (by first | exact Or.inl rfl | exact Or.inr rfl) (m_call g_children (hr.mono (by decide)) (by rfl) T.d_children.mgx T.d_children.kp T.d_children.bd (ma_cons (mv 1) (ma_cons (mv 2) ma_nil))))
    (mss_cons (ms_setLc (i := 6) false rfl sc_law.nd rfl rfl rfl (mi_rng1 (by rfl) T.n_range (m_call g_draw (hr.mono (by decide)) (by rfl) T.d_draw.mgx T.d_draw.kp T.d_draw.bd (ma_cons (mv 1) (ma_cons m_int ma_nil)))) (blkOk_by (own := [("_law_k", 7)]) (by kernel_rfl)) (by decide) (fun _ _ _ _ _ => (mg_name (i := 7) sc_law.nd rfl (by first | exact Or.inl rfl | exact Or.inr rfl))) (fun _ _ _ _ _ => mts_nil) (fun _ _ _ _ _ => (m_call g_draw (hr.mono (by decide)) (by rfl) T.d_draw.mgx T.d_draw.kp T.d_draw.bd (ma_cons (mv 1) (ma_cons (m_ix (m_lst false (ma_cons m_int (ma_cons m_int (ma_cons (m_op o_pow m_int m_int) ma_nil)))) (m_call g_draw (hr.mono (by decide)) (by rfl) T.d_draw.mgx T.d_draw.kp T.d_draw.bd (ma_cons (mv 1) (ma_cons m_int ma_nil)))) ma_nil)))))
    (mss_cons (ms_if (mt_cmp (o_eq hr.hu) (m_call g_draw (hr.mono (by decide)) (by rfl) T.d_draw.mgx T.d_draw.kp T.d_draw.bd (ma_cons (mv 1) (ma_cons m_int ma_nil))) m_int) (mss_one (ms_set (i := 6) sc_law.nd rfl (by first | exact Or.inl rfl | exact Or.inr rfl) (m_callTy c_tuple (by rfl) T.n_tuple bb_tuple (ma_cons (mv 6) ma_nil)))) mss_nil)
    (mss_one (ms_if (mt_not (mt_truth (m_call g_right (hr.mono (by decide)) (by rfl) T.d_right.mgx T.d_right.kp T.d_right.bd (ma_cons (mv 3) (ma_cons (mv 5) (ma_cons (mv 6) ma_nil)))))) (mss_one (ms_ret m_bl)) mss_nil)))))))
    (mss_cons (ms_set (i := 3) sc_law.nd rfl (by first | exact Or.inl rfl | exact Or.inr rfl) (m_tup (ma_cons (m_op (o_mul (own := false)) (m_tup (ma_cons (m_tupRg1 rfl (by rfl) T.n_tuple (by rfl) T.n_range m_int) ma_nil)) m_int) (ma_cons (m_op (o_mul (own := false)) (m_tup (ma_cons m_int ma_nil)) m_int) ma_nil))))
    (mss_cons (ms_if ((mw_or (mt_not (mt_truth (m_call g_right (hr.mono (by decide)) (by rfl) T.d_right.mgx T.d_right.kp T.d_right.bd (ma_cons (mv 3) (ma_cons (m_tup (ma_cons (m_tup ma_nil) ma_nil)) (ma_cons (m_lst false ma_nil) ma_nil)))))) (mw_or1 (mt_not (mt_truth (m_call g_right (hr.mono (by decide)) (by rfl) T.d_right.mgx T.d_right.kp T.d_right.bd (ma_cons (m_tup (ma_cons (m_tup ma_nil) (ma_cons (m_tup ma_nil) ma_nil))) (ma_cons (m_tup (ma_cons (m_tup (ma_cons m_int ma_nil)) (ma_cons (m_tup ma_nil) ma_nil))) (ma_cons (m_tup (ma_cons m_int ma_nil)) ma_nil))))))))).mt (mss_one (ms_ret m_bl)) mss_nil)
    (mss_one (ms_ret (m_call g_right (hr.mono (by decide)) (by rfl) T.d_right.mgx T.d_right.kp T.d_right.bd (ma_cons (m_tup (ma_cons (m_tup (ma_cons m_non ma_nil)) (ma_cons (m_tup (ma_cons m_int ma_nil)) ma_nil))) (ma_cons (m_tup (ma_cons (m_tup ma_nil) ma_nil)) (ma_cons (m_tup ma_nil) ma_nil))))))))))
end
end Q81

set_option maxRecDepth 100000
namespace Q81
open PySem PySem.Spec L2 ML
open PyProof.Rows hiding St
theorem law_pen (x0 : D) (G : Gp) (q : MK) (h : p_pen x0 G q) : b_pen { nx := fun _ G' => less q .non G', rt := less q } (startM ["_law_script"] [x0]) G := by
  obtain ⟨ns, rfl, k⟩ := h
  simp only [b_pen, mSeq, mIfS, mAsg, mRet, mRetN, mDrop, mTest, mOp, mC, mVar, mSetI, mNext, mCB, mCons, mNil, mAndT, mOrT, mNotT, mTruT, mIf, mNeg, mOr, mAnd, mNot, mLst, mTup, mBM, mBM0, mPar, mCall, mCallK, mLstRg1, mTupRg1, mRng1, mRng2, mEnum, mZipT, mFor, mSl, mNoPart, mPart, mLc, wipeM, List.set_cons_zero, List.set_cons_succ, startM, List.map_cons, List.map_nil, List.cons_append, List.nil_append, List.length_cons, List.length_nil, List.replicate, List.getElem?_cons_zero, List.getElem?_cons_succ, Option.some.injEq, Nat.reduceSub, Nat.reduceAdd, true_and, exists_eq_left, exists_eq_left', e_ix_tup, e_ix_lst, e_ix_fz, e_ix_ref, e_lo_lst, e_lo_fz, e_lo_ref, e_so_lst, e_so_fz, e_so_tup, e_so_ref, e_hd_lst, e_hd_ref, e_add_int, e_add_str, e_add_tup, e_add_lst, e_sub_int, e_mul_int, e_mul_lst, e_mul_tup, e_mod_int, e_fdv_int, e_pow_int, e_lt_int, e_le_int, e_gt_int, e_ge_int, e_eq_int, e_ne_int, e_eq_str, e_ne_str, e_isN, e_notN, e_isN_non, e_isN_int, e_isN_tup, e_isN_str, e_isN_ref, e_isN_lst, e_abs, e_max2, e_min2, e_int_int, e_int_bl, e_str_int, e_str_str, e_str_non, e_len_str, e_len_tup, e_len_lst, e_len_fz, e_len_ref, e_list_tup, e_list_lst, e_list_fz, e_list_ref, e_tupl_tup, e_tupl_lst, e_tupl_ref, e_newT, e_newF, e_run_nm, e_run_tp, e_runs_nil, e_runs_cons, e_tru_bl, e_tru_int, e_tru_str, e_tru_lst, e_tru_tup, e_ty_str, e_ty_lst, e_ty_ref, e_append, e_insert, e_popAt, e_pop0, e_join, e_seqI_val, e_cut_str, e_cut_tup, e_cut_lst, e_cut_fz, e_cut_ref]
  have e : cutD (ns.map D.int) none (some 63) = (ns.take 63).map D.int := by rw [show (63 : Int) = ((63 : Nat) : Int) from rfl, cutD_to, List.map_take]
  refine ⟨by decide, fun p hp => less_here (k p _ hp ⟨ns.take 63, 0, 0, ?_, by rw [List.length_take]; omega, by omega, by omega⟩)⟩
  rw [e]; rfl
theorem cpow_lt {i : Int} {j : Int} (h0 : 0 ≤ i) (h1 : i < 2 ^ 64) (j0 : 0 ≤ j) (j1 : j ≤ 1000000) : CPow i j := ⟨j0, j1, by omega⟩
theorem cmul_l {i j : Int} (h0 : -(2 ^ 64) < i) (h1 : i < 2 ^ 64) : CMul i j ∨ CMulW i j := .inl (.inl ⟨h0, h1⟩)
theorem cmul_r {i j : Int} (h0 : -(2 ^ 64) < j) (h1 : j < 2 ^ 64) : CMul i j ∨ CMulW i j := .inl (.inr ⟨h0, h1⟩)
theorem cdiv_b {i b : Int} (h0 : 1 ≤ b) (h1 : b ≤ 10 ^ 30) : CDivW i b := ⟨by omega, Nat.lt_trans (int_log (by omega) h1) (by decide)⟩
theorem law_draw (x0 x1 : D) (G : Gp) (q : MK) (h : p_draw x0 x1 G q) : b_draw { nx := fun _ G' => less q .non G', rt := less q } (startM ["_law_pen_here", "_law_bound", "_law_digit", "_law_at", "_law_cell", "_law_great", "_law_mixed"] [x0, x1]) G := by
  obtain ⟨a, b, m, o, rfl, rfl, b1, b2, h0, ⟨cells, k, rest, rfl, hc, k0, k1⟩, hm, kq⟩ := h
  simp only [b_draw, mSeq, mIfS, mAsg, mRet, mRetN, mDrop, mTest, mOp, mC, mVar, mSetI, mNext, mCB, mCons, mNil, mAndT, mOrT, mNotT, mTruT, mIf, mNeg, mOr, mAnd, mNot, mLst, mTup, mBM, mBM0, mPar, mCall, mCallK, mLstRg1, mTupRg1, mRng1, mRng2, mEnum, mZipT, mFor, mSl, mNoPart, mPart, mLc, wipeM, List.set_cons_zero, List.set_cons_succ, startM, List.map_cons, List.map_nil, List.cons_append, List.nil_append, List.length_cons, List.length_nil, List.replicate, List.getElem?_cons_zero, List.getElem?_cons_succ, Option.some.injEq, Nat.reduceSub, Nat.reduceAdd, true_and, exists_eq_left, exists_eq_left', e_ix_tup, e_ix_lst, e_ix_fz, e_ix_ref, e_lo_lst, e_lo_fz, e_lo_ref, e_so_lst, e_so_fz, e_so_tup, e_so_ref, e_hd_lst, e_hd_ref, e_add_int, e_add_str, e_add_tup, e_add_lst, e_sub_int, e_mul_int, e_mul_lst, e_mul_tup, e_mod_int, e_fdv_int, e_pow_int, e_lt_int, e_le_int, e_gt_int, e_ge_int, e_eq_int, e_ne_int, e_eq_str, e_ne_str, e_isN, e_notN, e_isN_non, e_isN_int, e_isN_tup, e_isN_str, e_isN_ref, e_isN_lst, e_abs, e_max2, e_min2, e_int_int, e_int_bl, e_str_int, e_str_str, e_str_non, e_len_str, e_len_tup, e_len_lst, e_len_fz, e_len_ref, e_list_tup, e_list_lst, e_list_fz, e_list_ref, e_tupl_tup, e_tupl_lst, e_tupl_ref, e_newT, e_newF, e_run_nm, e_run_tp, e_runs_nil, e_runs_cons, e_tru_bl, e_tru_int, e_tru_str, e_tru_lst, e_tru_tup, e_ty_str, e_ty_lst, e_ty_ref, e_append, e_insert, e_popAt, e_pop0, e_join, e_seqI_val, e_cut_str, e_cut_tup, e_cut_lst, e_cut_fz, e_cut_ref]
  refine ⟨_, _, h0, rfl, ?_⟩
  simp only [mSeq, mIfS, mAsg, mRet, mRetN, mDrop, mTest, mOp, mC, mVar, mSetI, mNext, mCB, mCons, mNil, mAndT, mOrT, mNotT, mTruT, mIf, mNeg, mOr, mAnd, mNot, mLst, mTup, mBM, mBM0, mPar, mCall, mCallK, mLstRg1, mTupRg1, mRng1, mRng2, mEnum, mZipT, mFor, mSl, mNoPart, mPart, mLc, wipeM, List.set_cons_zero, List.set_cons_succ, startM, List.map_cons, List.map_nil, List.cons_append, List.nil_append, List.length_cons, List.length_nil, List.replicate, List.getElem?_cons_zero, List.getElem?_cons_succ, Option.some.injEq, Nat.reduceSub, Nat.reduceAdd, true_and, exists_eq_left, exists_eq_left', e_ix_tup, e_ix_lst, e_ix_fz, e_ix_ref, e_lo_lst, e_lo_fz, e_lo_ref, e_so_lst, e_so_fz, e_so_tup, e_so_ref, e_hd_lst, e_hd_ref, e_add_int, e_add_str, e_add_tup, e_add_lst, e_sub_int, e_mul_int, e_mul_lst, e_mul_tup, e_mod_int, e_fdv_int, e_pow_int, e_lt_int, e_le_int, e_gt_int, e_ge_int, e_eq_int, e_ne_int, e_eq_str, e_ne_str, e_isN, e_notN, e_isN_non, e_isN_int, e_isN_tup, e_isN_str, e_isN_ref, e_isN_lst, e_abs, e_max2, e_min2, e_int_int, e_int_bl, e_str_int, e_str_str, e_str_non, e_len_str, e_len_tup, e_len_lst, e_len_fz, e_len_ref, e_list_tup, e_list_lst, e_list_fz, e_list_ref, e_tupl_tup, e_tupl_lst, e_tupl_ref, e_newT, e_newF, e_run_nm, e_run_tp, e_runs_nil, e_runs_cons, e_tru_bl, e_tru_int, e_tru_str, e_tru_lst, e_tru_tup, e_ty_str, e_ty_lst, e_ty_ref, e_append, e_insert, e_popAt, e_pop0, e_join, e_seqI_val, e_cut_str, e_cut_tup, e_cut_lst, e_cut_fz, e_cut_ref]
  by_cases hr : 0 < rest
  · simp only [hr, decide_true, b_draw_2, b_draw_3, b_draw_4, mSeq, mIfS, mAsg, mRet, mRetN, mDrop, mTest, mOp, mC, mVar, mSetI, mNext, mCB, mCons, mNil, mAndT, mOrT, mNotT, mTruT, mIf, mNeg, mOr, mAnd, mNot, mLst, mTup, mBM, mBM0, mPar, mCall, mCallK, mLstRg1, mTupRg1, mRng1, mRng2, mEnum, mZipT, mFor, mSl, mNoPart, mPart, mLc, wipeM, List.set_cons_zero, List.set_cons_succ, startM, List.map_cons, List.map_nil, List.cons_append, List.nil_append, List.length_cons, List.length_nil, List.replicate, List.getElem?_cons_zero, List.getElem?_cons_succ, Option.some.injEq, Nat.reduceSub, Nat.reduceAdd, true_and, exists_eq_left, exists_eq_left', e_ix_tup, e_ix_lst, e_ix_fz, e_ix_ref, e_lo_lst, e_lo_fz, e_lo_ref, e_so_lst, e_so_fz, e_so_tup, e_so_ref, e_hd_lst, e_hd_ref, e_add_int, e_add_str, e_add_tup, e_add_lst, e_sub_int, e_mul_int, e_mul_lst, e_mul_tup, e_mod_int, e_fdv_int, e_pow_int, e_lt_int, e_le_int, e_gt_int, e_ge_int, e_eq_int, e_ne_int, e_eq_str, e_ne_str, e_isN, e_notN, e_isN_non, e_isN_int, e_isN_tup, e_isN_str, e_isN_ref, e_isN_lst, e_abs, e_max2, e_min2, e_int_int, e_int_bl, e_str_int, e_str_str, e_str_non, e_len_str, e_len_tup, e_len_lst, e_len_fz, e_len_ref, e_list_tup, e_list_lst, e_list_fz, e_list_ref, e_tupl_tup, e_tupl_lst, e_tupl_ref, e_newT, e_newF, e_run_nm, e_run_tp, e_runs_nil, e_runs_cons, e_tru_bl, e_tru_int, e_tru_str, e_tru_lst, e_tru_tup, e_ty_str, e_ty_lst, e_ty_ref, e_append, e_insert, e_popAt, e_pop0, e_join, e_seqI_val, e_cut_str, e_cut_tup, e_cut_lst, e_cut_fz, e_cut_ref]
    refine ⟨_, _, h0, rfl, ?_⟩
    simp only [mSeq, mIfS, mAsg, mRet, mRetN, mDrop, mTest, mOp, mC, mVar, mSetI, mNext, mCB, mCons, mNil, mAndT, mOrT, mNotT, mTruT, mIf, mNeg, mOr, mAnd, mNot, mLst, mTup, mBM, mBM0, mPar, mCall, mCallK, mLstRg1, mTupRg1, mRng1, mRng2, mEnum, mZipT, mFor, mSl, mNoPart, mPart, mLc, wipeM, List.set_cons_zero, List.set_cons_succ, startM, List.map_cons, List.map_nil, List.cons_append, List.nil_append, List.length_cons, List.length_nil, List.replicate, List.getElem?_cons_zero, List.getElem?_cons_succ, Option.some.injEq, Nat.reduceSub, Nat.reduceAdd, true_and, exists_eq_left, exists_eq_left', e_ix_tup, e_ix_lst, e_ix_fz, e_ix_ref, e_lo_lst, e_lo_fz, e_lo_ref, e_so_lst, e_so_fz, e_so_tup, e_so_ref, e_hd_lst, e_hd_ref, e_add_int, e_add_str, e_add_tup, e_add_lst, e_sub_int, e_mul_int, e_mul_lst, e_mul_tup, e_mod_int, e_fdv_int, e_pow_int, e_lt_int, e_le_int, e_gt_int, e_ge_int, e_eq_int, e_ne_int, e_eq_str, e_ne_str, e_isN, e_notN, e_isN_non, e_isN_int, e_isN_tup, e_isN_str, e_isN_ref, e_isN_lst, e_abs, e_max2, e_min2, e_int_int, e_int_bl, e_str_int, e_str_str, e_str_non, e_len_str, e_len_tup, e_len_lst, e_len_fz, e_len_ref, e_list_tup, e_list_lst, e_list_fz, e_list_ref, e_tupl_tup, e_tupl_lst, e_tupl_ref, e_newT, e_newF, e_run_nm, e_run_tp, e_runs_nil, e_runs_cons, e_tru_bl, e_tru_int, e_tru_str, e_tru_lst, e_tru_tup, e_ty_str, e_ty_lst, e_ty_ref, e_append, e_insert, e_popAt, e_pop0, e_join, e_seqI_val, e_cut_str, e_cut_tup, e_cut_lst, e_cut_fz, e_cut_ref]
    refine ⟨by omega, _, _, h0, rfl, ?_⟩
    simp only [mSeq, mIfS, mAsg, mRet, mRetN, mDrop, mTest, mOp, mC, mVar, mSetI, mNext, mCB, mCons, mNil, mAndT, mOrT, mNotT, mTruT, mIf, mNeg, mOr, mAnd, mNot, mLst, mTup, mBM, mBM0, mPar, mCall, mCallK, mLstRg1, mTupRg1, mRng1, mRng2, mEnum, mZipT, mFor, mSl, mNoPart, mPart, mLc, wipeM, List.set_cons_zero, List.set_cons_succ, startM, List.map_cons, List.map_nil, List.cons_append, List.nil_append, List.length_cons, List.length_nil, List.replicate, List.getElem?_cons_zero, List.getElem?_cons_succ, Option.some.injEq, Nat.reduceSub, Nat.reduceAdd, true_and, exists_eq_left, exists_eq_left', e_ix_tup, e_ix_lst, e_ix_fz, e_ix_ref, e_lo_lst, e_lo_fz, e_lo_ref, e_so_lst, e_so_fz, e_so_tup, e_so_ref, e_hd_lst, e_hd_ref, e_add_int, e_add_str, e_add_tup, e_add_lst, e_sub_int, e_mul_int, e_mul_lst, e_mul_tup, e_mod_int, e_fdv_int, e_pow_int, e_lt_int, e_le_int, e_gt_int, e_ge_int, e_eq_int, e_ne_int, e_eq_str, e_ne_str, e_isN, e_notN, e_isN_non, e_isN_int, e_isN_tup, e_isN_str, e_isN_ref, e_isN_lst, e_abs, e_max2, e_min2, e_int_int, e_int_bl, e_str_int, e_str_str, e_str_non, e_len_str, e_len_tup, e_len_lst, e_len_fz, e_len_ref, e_list_tup, e_list_lst, e_list_fz, e_list_ref, e_tupl_tup, e_tupl_lst, e_tupl_ref, e_newT, e_newF, e_run_nm, e_run_tp, e_runs_nil, e_runs_cons, e_tru_bl, e_tru_int, e_tru_str, e_tru_lst, e_tru_tup, e_ty_str, e_ty_lst, e_ty_ref, e_append, e_insert, e_popAt, e_pop0, e_join, e_seqI_val, e_cut_str, e_cut_tup, e_cut_lst, e_cut_fz, e_cut_ref]
    refine ⟨cdiv_b b1 b2, _, _, h0, rfl, less_here (kq _ _ (Int.emod_nonneg _ (by omega)) (Int.emod_lt_of_pos _ (by omega)) ⟨cells, k, _, rfl, hc, k0, by omega⟩)⟩
  · simp only [hr, decide_false, b_draw_5, b_draw_6, b_draw_7, mSeq, mIfS, mAsg, mRet, mRetN, mDrop, mTest, mOp, mC, mVar, mSetI, mNext, mCB, mCons, mNil, mAndT, mOrT, mNotT, mTruT, mIf, mNeg, mOr, mAnd, mNot, mLst, mTup, mBM, mBM0, mPar, mCall, mCallK, mLstRg1, mTupRg1, mRng1, mRng2, mEnum, mZipT, mFor, mSl, mNoPart, mPart, mLc, wipeM, List.set_cons_zero, List.set_cons_succ, startM, List.map_cons, List.map_nil, List.cons_append, List.nil_append, List.length_cons, List.length_nil, List.replicate, List.getElem?_cons_zero, List.getElem?_cons_succ, Option.some.injEq, Nat.reduceSub, Nat.reduceAdd, true_and, exists_eq_left, exists_eq_left', e_ix_tup, e_ix_lst, e_ix_fz, e_ix_ref, e_lo_lst, e_lo_fz, e_lo_ref, e_so_lst, e_so_fz, e_so_tup, e_so_ref, e_hd_lst, e_hd_ref, e_add_int, e_add_str, e_add_tup, e_add_lst, e_sub_int, e_mul_int, e_mul_lst, e_mul_tup, e_mod_int, e_fdv_int, e_pow_int, e_lt_int, e_le_int, e_gt_int, e_ge_int, e_eq_int, e_ne_int, e_eq_str, e_ne_str, e_isN, e_notN, e_isN_non, e_isN_int, e_isN_tup, e_isN_str, e_isN_ref, e_isN_lst, e_abs, e_max2, e_min2, e_int_int, e_int_bl, e_str_int, e_str_str, e_str_non, e_len_str, e_len_tup, e_len_lst, e_len_fz, e_len_ref, e_list_tup, e_list_lst, e_list_fz, e_list_ref, e_tupl_tup, e_tupl_lst, e_tupl_ref, e_newT, e_newF, e_run_nm, e_run_tp, e_runs_nil, e_runs_cons, e_tru_bl, e_tru_int, e_tru_str, e_tru_lst, e_tru_tup, e_ty_str, e_ty_lst, e_ty_ref, e_append, e_insert, e_popAt, e_pop0, e_join, e_seqI_val, e_cut_str, e_cut_tup, e_cut_lst, e_cut_fz, e_cut_ref]
    refine ⟨_, _, h0, rfl, _, _, h0, rfl, ?_⟩
    simp only [mSeq, mIfS, mAsg, mRet, mRetN, mDrop, mTest, mOp, mC, mVar, mSetI, mNext, mCB, mCons, mNil, mAndT, mOrT, mNotT, mTruT, mIf, mNeg, mOr, mAnd, mNot, mLst, mTup, mBM, mBM0, mPar, mCall, mCallK, mLstRg1, mTupRg1, mRng1, mRng2, mEnum, mZipT, mFor, mSl, mNoPart, mPart, mLc, wipeM, List.set_cons_zero, List.set_cons_succ, startM, List.map_cons, List.map_nil, List.cons_append, List.nil_append, List.length_cons, List.length_nil, List.replicate, List.getElem?_cons_zero, List.getElem?_cons_succ, Option.some.injEq, Nat.reduceSub, Nat.reduceAdd, true_and, exists_eq_left, exists_eq_left', e_ix_tup, e_ix_lst, e_ix_fz, e_ix_ref, e_lo_lst, e_lo_fz, e_lo_ref, e_so_lst, e_so_fz, e_so_tup, e_so_ref, e_hd_lst, e_hd_ref, e_add_int, e_add_str, e_add_tup, e_add_lst, e_sub_int, e_mul_int, e_mul_lst, e_mul_tup, e_mod_int, e_fdv_int, e_pow_int, e_lt_int, e_le_int, e_gt_int, e_ge_int, e_eq_int, e_ne_int, e_eq_str, e_ne_str, e_isN, e_notN, e_isN_non, e_isN_int, e_isN_tup, e_isN_str, e_isN_ref, e_isN_lst, e_abs, e_max2, e_min2, e_int_int, e_int_bl, e_str_int, e_str_str, e_str_non, e_len_str, e_len_tup, e_len_lst, e_len_fz, e_len_ref, e_list_tup, e_list_lst, e_list_fz, e_list_ref, e_tupl_tup, e_tupl_lst, e_tupl_ref, e_newT, e_newF, e_run_nm, e_run_tp, e_runs_nil, e_runs_cons, e_tru_bl, e_tru_int, e_tru_str, e_tru_lst, e_tru_tup, e_ty_str, e_ty_lst, e_ty_ref, e_append, e_insert, e_popAt, e_pop0, e_join, e_seqI_val, e_cut_str, e_cut_tup, e_cut_lst, e_cut_fz, e_cut_ref]
    refine ⟨cmul_l (by decide) (by decide), ?_⟩
    have h1 : put G a (.lst [.lst (cells.map D.int), .int (k + 1), .int rest]) a = some (PenO cells (k + 1) rest) := put_same
    have hput : ∀ o, put (put G a (.lst [.lst (cells.map D.int), .int (k + 1), .int rest])) a o = put G a o := fun o => put_put
    refine (show b_draw_8 _ _ (put G a (.lst [.lst (cells.map D.int), .int (k + 1), .int rest])) from ?_)
    revert h1 hput
    generalize put G a (.lst [.lst (cells.map D.int), .int (k + 1), .int rest]) = G1
    intro h1 hput
    have tail : ∀ c : Int, b_draw_10 { nx := fun x G' => less q D.non G', rt := less q } [some (.ref a), some (.int b), none, some (.int k), some (.int c), none, none] G1 := by
      intro c
      have mix : b_draw_14 { nx := fun x G' => less q D.non G', rt := less q } [some (.ref a), some (.int b), none, some (.int k), some (.int c), none, none] G1 := by
        simp only [b_draw_14, b_draw_15, b_draw_16, mSeq, mIfS, mAsg, mRet, mRetN, mDrop, mTest, mOp, mC, mVar, mSetI, mNext, mCB, mCons, mNil, mAndT, mOrT, mNotT, mTruT, mIf, mNeg, mOr, mAnd, mNot, mLst, mTup, mBM, mBM0, mPar, mCall, mCallK, mLstRg1, mTupRg1, mRng1, mRng2, mEnum, mZipT, mFor, mSl, mNoPart, mPart, mLc, wipeM, List.set_cons_zero, List.set_cons_succ, startM, List.map_cons, List.map_nil, List.cons_append, List.nil_append, List.length_cons, List.length_nil, List.replicate, List.getElem?_cons_zero, List.getElem?_cons_succ, Option.some.injEq, Nat.reduceSub, Nat.reduceAdd, true_and, exists_eq_left, exists_eq_left', e_ix_tup, e_ix_lst, e_ix_fz, e_ix_ref, e_lo_lst, e_lo_fz, e_lo_ref, e_so_lst, e_so_fz, e_so_tup, e_so_ref, e_hd_lst, e_hd_ref, e_add_int, e_add_str, e_add_tup, e_add_lst, e_sub_int, e_mul_int, e_mul_lst, e_mul_tup, e_mod_int, e_fdv_int, e_pow_int, e_lt_int, e_le_int, e_gt_int, e_ge_int, e_eq_int, e_ne_int, e_eq_str, e_ne_str, e_isN, e_notN, e_isN_non, e_isN_int, e_isN_tup, e_isN_str, e_isN_ref, e_isN_lst, e_abs, e_max2, e_min2, e_int_int, e_int_bl, e_str_int, e_str_str, e_str_non, e_len_str, e_len_tup, e_len_lst, e_len_fz, e_len_ref, e_list_tup, e_list_lst, e_list_fz, e_list_ref, e_tupl_tup, e_tupl_lst, e_tupl_ref, e_newT, e_newF, e_run_nm, e_run_tp, e_runs_nil, e_runs_cons, e_tru_bl, e_tru_int, e_tru_str, e_tru_lst, e_tru_tup, e_ty_str, e_ty_lst, e_ty_ref, e_append, e_insert, e_popAt, e_pop0, e_join, e_seqI_val, e_cut_str, e_cut_tup, e_cut_lst, e_cut_fz, e_cut_ref]
        have hk : k ≤ 100000 := by omega
        have hkk : 0 ≤ 6007 * k * k ∧ 6007 * k * k ≤ 60070000000000 := by
          refine ⟨Int.mul_nonneg (by omega) k0, ?_⟩
          have h2 : 6007 * k * k ≤ 600700000 * k := Int.mul_le_mul_of_nonneg_right (by omega) k0
          omega
        have hcm : 0 ≤ c % 2147483587 ∧ c % 2147483587 < 2147483587 := ⟨Int.emod_nonneg _ (by decide), Int.emod_lt_of_pos _ (by decide)⟩
        refine ⟨by decide, cmul_l (by decide) (by decide), cmul_l (by decide) (by decide), cmul_r (by omega) (by omega), cpow_lt (by omega) (by omega) (by decide) (by decide), by decide, cmul_l (by decide) (by decide), ?_⟩
        generalize hm1 : (c % 2147483587 + 40009 * k + 6007 * k * k + 13) ^ (5 : Int).toNat % 2147483647 = m1
        have hm2 : 0 ≤ m1 ∧ m1 < 2147483647 := by rw [← hm1]; exact ⟨Int.emod_nonneg _ (by decide), Int.emod_lt_of_pos _ (by decide)⟩
        have hp : 0 ≤ m1 * (2 * k + 17) ∧ m1 * (2 * k + 17) ≤ 2147483647 * 200017 := by
          refine ⟨Int.mul_nonneg hm2.1 (by omega), Int.mul_le_mul (by omega) (by omega) (by omega) (by decide)⟩
        refine ⟨cmul_l (by omega) (by omega), cpow_lt (by omega) (by omega) (by decide) (by decide), by decide, ⟨by decide, by decide⟩, by omega, ?_⟩
        refine less_here ?_
        have hh := kq ((m1 * (2 * k + 17) + 90011) ^ (3 : Int).toNat % 2147483579 / 64 % b) (PenO cells (k + 1) rest) (Int.emod_nonneg _ (by omega)) (Int.emod_lt_of_pos _ (by omega)) ⟨cells, k + 1, rest, rfl, hc, by omega, by omega⟩
        rw [← hput] at hh
        have e : put G1 a (PenO cells (k + 1) rest) = G1 := by
          funext x
          by_cases hx : x = a
          · subst hx; rw [put_same, h1]
          · rw [put_ne hx]
        rw [e] at hh
        exact hh
      have big : b_draw_11 { nx := b_draw_14 { nx := fun x G' => less q D.non G', rt := less q }, rt := less q } [some (.ref a), some (.int b), none, some (.int k), some (.int c), none, none] G1 := by
        simp only [b_draw_11, b_draw_12, b_draw_13, mSeq, mIfS, mAsg, mRet, mRetN, mDrop, mTest, mOp, mC, mVar, mSetI, mNext, mCB, mCons, mNil, mAndT, mOrT, mNotT, mTruT, mIf, mNeg, mOr, mAnd, mNot, mLst, mTup, mBM, mBM0, mPar, mCall, mCallK, mLstRg1, mTupRg1, mRng1, mRng2, mEnum, mZipT, mFor, mSl, mNoPart, mPart, mLc, wipeM, List.set_cons_zero, List.set_cons_succ, startM, List.map_cons, List.map_nil, List.cons_append, List.nil_append, List.length_cons, List.length_nil, List.replicate, List.getElem?_cons_zero, List.getElem?_cons_succ, Option.some.injEq, Nat.reduceSub, Nat.reduceAdd, true_and, exists_eq_left, exists_eq_left', e_ix_tup, e_ix_lst, e_ix_fz, e_ix_ref, e_lo_lst, e_lo_fz, e_lo_ref, e_so_lst, e_so_fz, e_so_tup, e_so_ref, e_hd_lst, e_hd_ref, e_add_int, e_add_str, e_add_tup, e_add_lst, e_sub_int, e_mul_int, e_mul_lst, e_mul_tup, e_mod_int, e_fdv_int, e_pow_int, e_lt_int, e_le_int, e_gt_int, e_ge_int, e_eq_int, e_ne_int, e_eq_str, e_ne_str, e_isN, e_notN, e_isN_non, e_isN_int, e_isN_tup, e_isN_str, e_isN_ref, e_isN_lst, e_abs, e_max2, e_min2, e_int_int, e_int_bl, e_str_int, e_str_str, e_str_non, e_len_str, e_len_tup, e_len_lst, e_len_fz, e_len_ref, e_list_tup, e_list_lst, e_list_fz, e_list_ref, e_tupl_tup, e_tupl_lst, e_tupl_ref, e_newT, e_newF, e_run_nm, e_run_tp, e_runs_nil, e_runs_cons, e_tru_bl, e_tru_int, e_tru_str, e_tru_lst, e_tru_tup, e_ty_str, e_ty_lst, e_ty_ref, e_append, e_insert, e_popAt, e_pop0, e_join, e_seqI_val, e_cut_str, e_cut_tup, e_cut_lst, e_cut_fz, e_cut_ref]
        refine ⟨⟨by decide, by decide, by decide⟩, cmul_l (by decide) (by decide), cdiv_b b1 b2, _, _, h1, rfl, by omega, less_here ?_⟩
        rw [show ([D.lst (cells.map D.int), .int (k + 1), .int rest] : List D) = [D.lst (cells.map D.int), .int (k + 1), .int rest] from rfl]
        have hh := kq ((2 * ((if c < 0 then -c else c) - 10 ^ (18 : Int).toNat) + (if decide (c < 0) = true then 1 else 0)) % b) (PenO cells (k + 1) ((2 * ((if c < 0 then -c else c) - 10 ^ (18 : Int).toNat) + (if decide (c < 0) = true then 1 else 0)) / b)) (Int.emod_nonneg _ (by omega)) (Int.emod_lt_of_pos _ (by omega)) ⟨cells, k + 1, _, rfl, hc, by omega, by omega⟩
        rw [← hput] at hh
        exact hh
      simp only [b_draw_10, mSeq, mIfS, mAsg, mRet, mRetN, mDrop, mTest, mOp, mC, mVar, mSetI, mNext, mCB, mCons, mNil, mAndT, mOrT, mNotT, mTruT, mIf, mNeg, mOr, mAnd, mNot, mLst, mTup, mBM, mBM0, mPar, mCall, mCallK, mLstRg1, mTupRg1, mRng1, mRng2, mEnum, mZipT, mFor, mSl, mNoPart, mPart, mLc, wipeM, List.set_cons_zero, List.set_cons_succ, startM, List.map_cons, List.map_nil, List.cons_append, List.nil_append, List.length_cons, List.length_nil, List.replicate, List.getElem?_cons_zero, List.getElem?_cons_succ, Option.some.injEq, Nat.reduceSub, Nat.reduceAdd, true_and, exists_eq_left, exists_eq_left', e_ix_tup, e_ix_lst, e_ix_fz, e_ix_ref, e_lo_lst, e_lo_fz, e_lo_ref, e_so_lst, e_so_fz, e_so_tup, e_so_ref, e_hd_lst, e_hd_ref, e_add_int, e_add_str, e_add_tup, e_add_lst, e_sub_int, e_mul_int, e_mul_lst, e_mul_tup, e_mod_int, e_fdv_int, e_pow_int, e_lt_int, e_le_int, e_gt_int, e_ge_int, e_eq_int, e_ne_int, e_eq_str, e_ne_str, e_isN, e_notN, e_isN_non, e_isN_int, e_isN_tup, e_isN_str, e_isN_ref, e_isN_lst, e_abs, e_max2, e_min2, e_int_int, e_int_bl, e_str_int, e_str_str, e_str_non, e_len_str, e_len_tup, e_len_lst, e_len_fz, e_len_ref, e_list_tup, e_list_lst, e_list_fz, e_list_ref, e_tupl_tup, e_tupl_lst, e_tupl_ref, e_newT, e_newF, e_run_nm, e_run_tp, e_runs_nil, e_runs_cons, e_tru_bl, e_tru_int, e_tru_str, e_tru_lst, e_tru_tup, e_ty_str, e_ty_lst, e_ty_ref, e_append, e_insert, e_popAt, e_pop0, e_join, e_seqI_val, e_cut_str, e_cut_tup, e_cut_lst, e_cut_fz, e_cut_ref]
      refine ⟨_, _, h1, rfl, ?_⟩
      simp only [mSeq, mIfS, mAsg, mRet, mRetN, mDrop, mTest, mOp, mC, mVar, mSetI, mNext, mCB, mCons, mNil, mAndT, mOrT, mNotT, mTruT, mIf, mNeg, mOr, mAnd, mNot, mLst, mTup, mBM, mBM0, mPar, mCall, mCallK, mLstRg1, mTupRg1, mRng1, mRng2, mEnum, mZipT, mFor, mSl, mNoPart, mPart, mLc, wipeM, List.set_cons_zero, List.set_cons_succ, startM, List.map_cons, List.map_nil, List.cons_append, List.nil_append, List.length_cons, List.length_nil, List.replicate, List.getElem?_cons_zero, List.getElem?_cons_succ, Option.some.injEq, Nat.reduceSub, Nat.reduceAdd, true_and, exists_eq_left, exists_eq_left', e_ix_tup, e_ix_lst, e_ix_fz, e_ix_ref, e_lo_lst, e_lo_fz, e_lo_ref, e_so_lst, e_so_fz, e_so_tup, e_so_ref, e_hd_lst, e_hd_ref, e_add_int, e_add_str, e_add_tup, e_add_lst, e_sub_int, e_mul_int, e_mul_lst, e_mul_tup, e_mod_int, e_fdv_int, e_pow_int, e_lt_int, e_le_int, e_gt_int, e_ge_int, e_eq_int, e_ne_int, e_eq_str, e_ne_str, e_isN, e_notN, e_isN_non, e_isN_int, e_isN_tup, e_isN_str, e_isN_ref, e_isN_lst, e_abs, e_max2, e_min2, e_int_int, e_int_bl, e_str_int, e_str_str, e_str_non, e_len_str, e_len_tup, e_len_lst, e_len_fz, e_len_ref, e_list_tup, e_list_lst, e_list_fz, e_list_ref, e_tupl_tup, e_tupl_lst, e_tupl_ref, e_newT, e_newF, e_run_nm, e_run_tp, e_runs_nil, e_runs_cons, e_tru_bl, e_tru_int, e_tru_str, e_tru_lst, e_tru_tup, e_ty_str, e_ty_lst, e_ty_ref, e_append, e_insert, e_popAt, e_pop0, e_join, e_seqI_val, e_cut_str, e_cut_tup, e_cut_lst, e_cut_fz, e_cut_ref]
      by_cases hl : k < ((cells.map D.int).length : Int)
      · simp only [hl, decide_true, mSeq, mIfS, mAsg, mRet, mRetN, mDrop, mTest, mOp, mC, mVar, mSetI, mNext, mCB, mCons, mNil, mAndT, mOrT, mNotT, mTruT, mIf, mNeg, mOr, mAnd, mNot, mLst, mTup, mBM, mBM0, mPar, mCall, mCallK, mLstRg1, mTupRg1, mRng1, mRng2, mEnum, mZipT, mFor, mSl, mNoPart, mPart, mLc, wipeM, List.set_cons_zero, List.set_cons_succ, startM, List.map_cons, List.map_nil, List.cons_append, List.nil_append, List.length_cons, List.length_nil, List.replicate, List.getElem?_cons_zero, List.getElem?_cons_succ, Option.some.injEq, Nat.reduceSub, Nat.reduceAdd, true_and, exists_eq_left, exists_eq_left', e_ix_tup, e_ix_lst, e_ix_fz, e_ix_ref, e_lo_lst, e_lo_fz, e_lo_ref, e_so_lst, e_so_fz, e_so_tup, e_so_ref, e_hd_lst, e_hd_ref, e_add_int, e_add_str, e_add_tup, e_add_lst, e_sub_int, e_mul_int, e_mul_lst, e_mul_tup, e_mod_int, e_fdv_int, e_pow_int, e_lt_int, e_le_int, e_gt_int, e_ge_int, e_eq_int, e_ne_int, e_eq_str, e_ne_str, e_isN, e_notN, e_isN_non, e_isN_int, e_isN_tup, e_isN_str, e_isN_ref, e_isN_lst, e_abs, e_max2, e_min2, e_int_int, e_int_bl, e_str_int, e_str_str, e_str_non, e_len_str, e_len_tup, e_len_lst, e_len_fz, e_len_ref, e_list_tup, e_list_lst, e_list_fz, e_list_ref, e_tupl_tup, e_tupl_lst, e_tupl_ref, e_newT, e_newF, e_run_nm, e_run_tp, e_runs_nil, e_runs_cons, e_tru_bl, e_tru_int, e_tru_str, e_tru_lst, e_tru_tup, e_ty_str, e_ty_lst, e_ty_ref, e_append, e_insert, e_popAt, e_pop0, e_join, e_seqI_val, e_cut_str, e_cut_tup, e_cut_lst, e_cut_fz, e_cut_ref]
        refine ⟨⟨by decide, by decide, by decide⟩, ?_⟩
        by_cases hb : (10 : Int) ^ (18 : Int).toNat ≤ if c < 0 then -c else c
        · simp only [hb, decide_true]; exact big
        · simp only [hb, decide_false]; exact mix
      · simp only [hl, decide_false]; exact mix
    simp only [b_draw_8, mSeq, mIfS, mAsg, mRet, mRetN, mDrop, mTest, mOp, mC, mVar, mSetI, mNext, mCB, mCons, mNil, mAndT, mOrT, mNotT, mTruT, mIf, mNeg, mOr, mAnd, mNot, mLst, mTup, mBM, mBM0, mPar, mCall, mCallK, mLstRg1, mTupRg1, mRng1, mRng2, mEnum, mZipT, mFor, mSl, mNoPart, mPart, mLc, wipeM, List.set_cons_zero, List.set_cons_succ, startM, List.map_cons, List.map_nil, List.cons_append, List.nil_append, List.length_cons, List.length_nil, List.replicate, List.getElem?_cons_zero, List.getElem?_cons_succ, Option.some.injEq, Nat.reduceSub, Nat.reduceAdd, true_and, exists_eq_left, exists_eq_left', e_ix_tup, e_ix_lst, e_ix_fz, e_ix_ref, e_lo_lst, e_lo_fz, e_lo_ref, e_so_lst, e_so_fz, e_so_tup, e_so_ref, e_hd_lst, e_hd_ref, e_add_int, e_add_str, e_add_tup, e_add_lst, e_sub_int, e_mul_int, e_mul_lst, e_mul_tup, e_mod_int, e_fdv_int, e_pow_int, e_lt_int, e_le_int, e_gt_int, e_ge_int, e_eq_int, e_ne_int, e_eq_str, e_ne_str, e_isN, e_notN, e_isN_non, e_isN_int, e_isN_tup, e_isN_str, e_isN_ref, e_isN_lst, e_abs, e_max2, e_min2, e_int_int, e_int_bl, e_str_int, e_str_str, e_str_non, e_len_str, e_len_tup, e_len_lst, e_len_fz, e_len_ref, e_list_tup, e_list_lst, e_list_fz, e_list_ref, e_tupl_tup, e_tupl_lst, e_tupl_ref, e_newT, e_newF, e_run_nm, e_run_tp, e_runs_nil, e_runs_cons, e_tru_bl, e_tru_int, e_tru_str, e_tru_lst, e_tru_tup, e_ty_str, e_ty_lst, e_ty_ref, e_append, e_insert, e_popAt, e_pop0, e_join, e_seqI_val, e_cut_str, e_cut_tup, e_cut_lst, e_cut_fz, e_cut_ref]
    refine ⟨_, _, h1, rfl, by decide, ?_⟩
    refine ne_val rfl ?_ rfl ?_ ?_ (.inl rfl) (.inl rfl) ?_
    · exact okDs_all fun d hd => by obtain ⟨i, _, rfl⟩ := List.mem_map.mp hd; rfl
    · exact Nat.le_trans (Nat.succ_le_succ (deps_all (n := 0) fun d hd => by obtain ⟨i, _, rfl⟩ := List.mem_map.mp hd; exact Nat.le_refl _)) (by decide)
    · decide
    cases cells with
    | nil => exact tail _
    | cons c0 cs =>
      show b_draw_9 { nx := b_draw_10 { nx := fun x G' => less q D.non G', rt := less q }, rt := less q } [some (D.ref a), some (D.int b), none, some (D.int k), some (D.int (53003 * k + 61)), none, none] G1
      simp only [b_draw_9, mSeq, mIfS, mAsg, mRet, mRetN, mDrop, mTest, mOp, mC, mVar, mSetI, mNext, mCB, mCons, mNil, mAndT, mOrT, mNotT, mTruT, mIf, mNeg, mOr, mAnd, mNot, mLst, mTup, mBM, mBM0, mPar, mCall, mCallK, mLstRg1, mTupRg1, mRng1, mRng2, mEnum, mZipT, mFor, mSl, mNoPart, mPart, mLc, wipeM, List.set_cons_zero, List.set_cons_succ, startM, List.map_cons, List.map_nil, List.cons_append, List.nil_append, List.length_cons, List.length_nil, List.replicate, List.getElem?_cons_zero, List.getElem?_cons_succ, Option.some.injEq, Nat.reduceSub, Nat.reduceAdd, true_and, exists_eq_left, exists_eq_left', e_ix_tup, e_ix_lst, e_ix_fz, e_ix_ref, e_lo_lst, e_lo_fz, e_lo_ref, e_so_lst, e_so_fz, e_so_tup, e_so_ref, e_hd_lst, e_hd_ref, e_add_int, e_add_str, e_add_tup, e_add_lst, e_sub_int, e_mul_int, e_mul_lst, e_mul_tup, e_mod_int, e_fdv_int, e_pow_int, e_lt_int, e_le_int, e_gt_int, e_ge_int, e_eq_int, e_ne_int, e_eq_str, e_ne_str, e_isN, e_notN, e_isN_non, e_isN_int, e_isN_tup, e_isN_str, e_isN_ref, e_isN_lst, e_abs, e_max2, e_min2, e_int_int, e_int_bl, e_str_int, e_str_str, e_str_non, e_len_str, e_len_tup, e_len_lst, e_len_fz, e_len_ref, e_list_tup, e_list_lst, e_list_fz, e_list_ref, e_tupl_tup, e_tupl_lst, e_tupl_ref, e_newT, e_newF, e_run_nm, e_run_tp, e_runs_nil, e_runs_cons, e_tru_bl, e_tru_int, e_tru_str, e_tru_lst, e_tru_tup, e_ty_str, e_ty_lst, e_ty_ref, e_append, e_insert, e_popAt, e_pop0, e_join, e_seqI_val, e_cut_str, e_cut_tup, e_cut_lst, e_cut_fz, e_cut_ref]
      refine ⟨_, _, h1, rfl, _, _, h1, rfl, ?_⟩
      simp only [mSeq, mIfS, mAsg, mRet, mRetN, mDrop, mTest, mOp, mC, mVar, mSetI, mNext, mCB, mCons, mNil, mAndT, mOrT, mNotT, mTruT, mIf, mNeg, mOr, mAnd, mNot, mLst, mTup, mBM, mBM0, mPar, mCall, mCallK, mLstRg1, mTupRg1, mRng1, mRng2, mEnum, mZipT, mFor, mSl, mNoPart, mPart, mLc, wipeM, List.set_cons_zero, List.set_cons_succ, startM, List.map_cons, List.map_nil, List.cons_append, List.nil_append, List.length_cons, List.length_nil, List.replicate, List.getElem?_cons_zero, List.getElem?_cons_succ, Option.some.injEq, Nat.reduceSub, Nat.reduceAdd, true_and, exists_eq_left, exists_eq_left', e_ix_tup, e_ix_lst, e_ix_fz, e_ix_ref, e_lo_lst, e_lo_fz, e_lo_ref, e_so_lst, e_so_fz, e_so_tup, e_so_ref, e_hd_lst, e_hd_ref, e_add_int, e_add_str, e_add_tup, e_add_lst, e_sub_int, e_mul_int, e_mul_lst, e_mul_tup, e_mod_int, e_fdv_int, e_pow_int, e_lt_int, e_le_int, e_gt_int, e_ge_int, e_eq_int, e_ne_int, e_eq_str, e_ne_str, e_isN, e_notN, e_isN_non, e_isN_int, e_isN_tup, e_isN_str, e_isN_ref, e_isN_lst, e_abs, e_max2, e_min2, e_int_int, e_int_bl, e_str_int, e_str_str, e_str_non, e_len_str, e_len_tup, e_len_lst, e_len_fz, e_len_ref, e_list_tup, e_list_lst, e_list_fz, e_list_ref, e_tupl_tup, e_tupl_lst, e_tupl_ref, e_newT, e_newF, e_run_nm, e_run_tp, e_runs_nil, e_runs_cons, e_tru_bl, e_tru_int, e_tru_str, e_tru_lst, e_tru_tup, e_ty_str, e_ty_lst, e_ty_ref, e_append, e_insert, e_popAt, e_pop0, e_join, e_seqI_val, e_cut_str, e_cut_tup, e_cut_lst, e_cut_fz, e_cut_ref]
      have hlen : (0 : Int) < ((((c0 :: cs).map D.int).length : Nat) : Int) := by rw [List.length_map, List.length_cons]; omega
      obtain ⟨w, hw, hm', _⟩ := at_in (xs := (c0 :: cs).map D.int) (i := k % (((c0 :: cs).map D.int).length : Nat)) (Int.emod_nonneg _ (by omega)) (Int.emod_lt_of_pos _ hlen)
      obtain ⟨c, _, rfl⟩ := List.mem_map.mp hm'
      refine ⟨?_, _, _, rfl, hw, ?_⟩
      · exact hlen
      · exact tail c
end Q81

set_option maxRecDepth 100000
namespace Q81
open PySem PySem.Spec L2 ML
open PyProof.Rows hiding St
theorem draw_at {a : Addr} {b : Int} {m : Nat} {o : MO} {G : Gp} {q : MK} {E : MX} (hG : G a = some o) (hp : Pen m o) (hm : m ≤ 100000) (b1 : 1 ≤ b) (b2 : b ≤ 10 ^ 30)
    (h : ∀ r o', 0 ≤ r → r < b → Pen (m + 1) o' → q (.int r) (put G a o')) : p_draw (.ref a) (.int b) G q := ⟨a, b, m, o, rfl, rfl, b1, b2, hG, hp, hm, h⟩
theorem sub_of {G G' : Gp} {a : Addr} {o : MO} (h1 : G' a = some o) (h2 : ∀ b u, b ≠ a → G b = some u → G' b = some u) : Sub (put G a o) G' := fun b u e => by
  by_cases hb : b = a
  · subst hb; rw [put_same] at e; cases e; exact h1
  · rw [put_ne hb] at e; exact h2 b u hb e
theorem rng_at {lo : Int} {n i : Nat} {w : D} (h : (rng lo n)[i]? = some w) : i < n ∧ w = .int (lo + (i : Nat)) := by
  rw [rng_get] at h
  split at h
  · cases h; exact ⟨‹_›, rfl⟩
  · cases h
theorem mem_nums {n : Nat} {l : List D} (h : ∀ x ∈ l, ∃ i : Int, x = .int i ∧ 0 ≤ i ∧ i < (n : Int)) : ∃ is : List Int, l = is.map D.int ∧ NumsIn n is := by
  induction l with
  | nil => exact ⟨[], rfl, fun _ h => nomatch h⟩
  | cons x xs ih =>
    obtain ⟨i, rfl, a, b⟩ := h x List.mem_cons_self
    obtain ⟨is, rfl, c⟩ := ih fun y hy => h y (List.mem_cons_of_mem _ hy)
    refine ⟨i :: is, rfl, fun j hj => ?_⟩
    rcases List.mem_cons.mp hj with rfl | hj
    · exact ⟨a, b⟩
    · exact c j hj
theorem law_order (x0 x1 : D) (G : Gp) (q : MK) (h : p_order x0 x1 G q) : b_order { nx := fun _ G' => less q .non G', rt := less q } (startM ["_law_pen_here", "_law_size_here", "_law_left", "_law_k"] [x0, x1]) G := by
  obtain ⟨a, n, m, o, rfl, rfl, hn, h0, hp, hm, kq⟩ := h
  simp only [b_order, b_order_2, mSeq, mIfS, mAsg, mRet, mRetN, mDrop, mTest, mOp, mC, mVar, mSetI, mNext, mCB, mCons, mNil, mAndT, mOrT, mNotT, mTruT, mIf, mNeg, mOr, mAnd, mNot, mLst, mTup, mBM, mBM0, mPar, mCall, mCallK, mLstRg1, mTupRg1, mRng1, mRng2, mEnum, mZipT, mFor, mSl, mNoPart, mPart, mLc, wipeM, List.set_cons_zero, List.set_cons_succ, startM, List.map_cons, List.map_nil, List.cons_append, List.nil_append, List.length_cons, List.length_nil, List.replicate, List.getElem?_cons_zero, List.getElem?_cons_succ, Option.some.injEq, Nat.reduceSub, Nat.reduceAdd, true_and, exists_eq_left, exists_eq_left', e_ix_tup, e_ix_lst, e_ix_fz, e_ix_ref, e_lo_lst, e_lo_fz, e_lo_ref, e_so_lst, e_so_fz, e_so_tup, e_so_ref, e_hd_lst, e_hd_ref, e_add_int, e_add_str, e_add_tup, e_add_lst, e_sub_int, e_mul_int, e_mul_lst, e_mul_tup, e_mod_int, e_fdv_int, e_pow_int, e_lt_int, e_le_int, e_gt_int, e_ge_int, e_eq_int, e_ne_int, e_eq_str, e_ne_str, e_isN, e_notN, e_isN_non, e_isN_int, e_isN_tup, e_isN_str, e_isN_ref, e_isN_lst, e_abs, e_max2, e_min2, e_int_int, e_int_bl, e_str_int, e_str_str, e_str_non, e_len_str, e_len_tup, e_len_lst, e_len_fz, e_len_ref, e_list_tup, e_list_lst, e_list_fz, e_list_ref, e_tupl_tup, e_tupl_lst, e_tupl_ref, e_newT, e_newF, e_run_nm, e_run_tp, e_runs_nil, e_runs_cons, e_tru_bl, e_tru_int, e_tru_str, e_tru_lst, e_tru_tup, e_ty_str, e_ty_lst, e_ty_ref, e_append, e_insert, e_popAt, e_pop0, e_join, e_seqI_val, e_cut_str, e_cut_tup, e_cut_lst, e_cut_fz, e_cut_ref]
  refine ⟨⟨by omega, by omega, by omega, by omega, by omega⟩, fun p hpf => ?_⟩
  have nap := ne_of_fresh h0 hpf
  refine ⟨⟨by omega, by omega⟩, comp_ind (fun i acc G' => (∃ o', G' a = some o' ∧ Pen (m + i) o') ∧ (∃ l : List D, G' p = some (.lst l) ∧ l.length = n - i ∧ ∀ x ∈ l, ∃ i : Int, x = .int i ∧ 0 ≤ i ∧ i < (n : Int)) ∧ (∀ b u, b ≠ a → G b = some u → G' b = some u) ∧ acc.length = i ∧ ∀ x ∈ acc, ∃ i : Int, x = .int i ∧ 0 ≤ i ∧ i < (n : Int)) ?_ ?_ ?_⟩
  · rintro i w acc G' N hw ⟨⟨o', ga, pa⟩, ⟨l, gp, ll, lin⟩, old, al, ain⟩ hN
    obtain ⟨hi, rfl⟩ := rng_at hw
    have hi' : i < n := by simpa using hi
    refine ⟨trivial, ?_⟩
    simp only [mSeq, mIfS, mAsg, mRet, mRetN, mDrop, mTest, mOp, mC, mVar, mSetI, mNext, mCB, mCons, mNil, mAndT, mOrT, mNotT, mTruT, mIf, mNeg, mOr, mAnd, mNot, mLst, mTup, mBM, mBM0, mPar, mCall, mCallK, mLstRg1, mTupRg1, mRng1, mRng2, mEnum, mZipT, mFor, mSl, mNoPart, mPart, mLc, wipeM, List.set_cons_zero, List.set_cons_succ, startM, List.map_cons, List.map_nil, List.cons_append, List.nil_append, List.length_cons, List.length_nil, List.replicate, List.getElem?_cons_zero, List.getElem?_cons_succ, Option.some.injEq, Nat.reduceSub, Nat.reduceAdd, true_and, exists_eq_left, exists_eq_left', e_ix_tup, e_ix_lst, e_ix_fz, e_ix_ref, e_lo_lst, e_lo_fz, e_lo_ref, e_so_lst, e_so_fz, e_so_tup, e_so_ref, e_hd_lst, e_hd_ref, e_add_int, e_add_str, e_add_tup, e_add_lst, e_sub_int, e_mul_int, e_mul_lst, e_mul_tup, e_mod_int, e_fdv_int, e_pow_int, e_lt_int, e_le_int, e_gt_int, e_ge_int, e_eq_int, e_ne_int, e_eq_str, e_ne_str, e_isN, e_notN, e_isN_non, e_isN_int, e_isN_tup, e_isN_str, e_isN_ref, e_isN_lst, e_abs, e_max2, e_min2, e_int_int, e_int_bl, e_str_int, e_str_str, e_str_non, e_len_str, e_len_tup, e_len_lst, e_len_fz, e_len_ref, e_list_tup, e_list_lst, e_list_fz, e_list_ref, e_tupl_tup, e_tupl_lst, e_tupl_ref, e_newT, e_newF, e_run_nm, e_run_tp, e_runs_nil, e_runs_cons, e_tru_bl, e_tru_int, e_tru_str, e_tru_lst, e_tru_tup, e_ty_str, e_ty_lst, e_ty_ref, e_append, e_insert, e_popAt, e_pop0, e_join, e_seqI_val, e_cut_str, e_cut_tup, e_cut_lst, e_cut_fz, e_cut_ref]
    refine ⟨⟨l, gp⟩, l, gp, ?_⟩
    rw [e_sp_draw]
    refine draw_at (E := noX) ga pa (by omega) (by omega) (by omega) fun r o2 r0 r1 p2 => ?_
    have hl : r < (l.length : Int) := r1
    obtain ⟨y, hy, hm', hg⟩ := at_in r0 hl
    refine ⟨l, r.toNat, y, by rw [put_ne nap.symm]; exact gp, by omega, by omega, seqIx_in r0 hl, hg, by have := sizeLine_eq; omega, hN _ _ ⟨⟨o2, by rw [put_ne nap, put_same], p2⟩, ⟨_, put_same, ?_, ?_⟩, ?_, ?_, ?_⟩⟩
    · rw [List.length_eraseIdx, if_pos (by omega)]; omega
    · intro x hx; exact lin x (List.mem_of_mem_eraseIdx hx)
    · intro b u hb e
      have hbp : b ≠ p := fun z => by subst z; rw [hpf] at e; cases e
      rw [put_ne hbp, put_ne hb]; exact old b u hb e
    · rw [List.length_append, al]; rfl
    · intro x hx
      rcases List.mem_append.mp hx with hx | hx
      · exact ain x hx
      · rw [List.mem_singleton] at hx; subst hx; exact lin _ hm'
  · rintro acc G' ⟨⟨o', ga, pa⟩, _, old, al, ain⟩
    rw [rng_len] at pa al
    obtain ⟨is, rfl, hin⟩ := mem_nums ain
    rw [List.length_map] at al
    refine ⟨trivial, less_of (sub_of ga old) (kq is o' (by simpa using al) hin (by simpa using pa))⟩
  · refine ⟨⟨o, by rw [put_ne nap]; exact h0, hp⟩, ⟨_, put_same, ?_, ?_⟩, ?_, rfl, fun _ h => nomatch h⟩
    · rw [rng_len]; simp
    · intro x hx
      obtain ⟨j, hj, e⟩ := List.mem_iff_getElem.mp hx
      have e2 := List.getElem?_eq_getElem hj
      rw [e] at e2
      obtain ⟨h1, rfl⟩ := rng_at e2
      exact ⟨_, rfl, by omega, by omega⟩
    · intro b u hb e
      have hbp : b ≠ p := fun z => by subst z; rw [hpf] at e; cases e
      rw [put_ne hbp]; exact e
theorem law_size (x0 x1 : D) (G : Gp) (q : MK) (h : p_size x0 x1 G q) : b_size { nx := fun _ G' => less q .non G', rt := less q } (startM ["_law_pen_here", "_law_most", "_law_way"] [x0, x1]) G := by
  obtain ⟨a, n, m, o, rfl, rfl, hn, hn2, h0, hp, hm, kq⟩ := h
  simp only [b_size, b_size_2, e_sp_draw, mSeq, mIfS, mAsg, mRet, mRetN, mDrop, mTest, mOp, mC, mVar, mSetI, mNext, mCB, mCons, mNil, mAndT, mOrT, mNotT, mTruT, mIf, mNeg, mOr, mAnd, mNot, mLst, mTup, mBM, mBM0, mPar, mCall, mCallK, mLstRg1, mTupRg1, mRng1, mRng2, mEnum, mZipT, mFor, mSl, mNoPart, mPart, mLc, wipeM, List.set_cons_zero, List.set_cons_succ, startM, List.map_cons, List.map_nil, List.cons_append, List.nil_append, List.length_cons, List.length_nil, List.replicate, List.getElem?_cons_zero, List.getElem?_cons_succ, Option.some.injEq, Nat.reduceSub, Nat.reduceAdd, true_and, exists_eq_left, exists_eq_left', e_ix_tup, e_ix_lst, e_ix_fz, e_ix_ref, e_lo_lst, e_lo_fz, e_lo_ref, e_so_lst, e_so_fz, e_so_tup, e_so_ref, e_hd_lst, e_hd_ref, e_add_int, e_add_str, e_add_tup, e_add_lst, e_sub_int, e_mul_int, e_mul_lst, e_mul_tup, e_mod_int, e_fdv_int, e_pow_int, e_lt_int, e_le_int, e_gt_int, e_ge_int, e_eq_int, e_ne_int, e_eq_str, e_ne_str, e_isN, e_notN, e_isN_non, e_isN_int, e_isN_tup, e_isN_str, e_isN_ref, e_isN_lst, e_abs, e_max2, e_min2, e_int_int, e_int_bl, e_str_int, e_str_str, e_str_non, e_len_str, e_len_tup, e_len_lst, e_len_fz, e_len_ref, e_list_tup, e_list_lst, e_list_fz, e_list_ref, e_tupl_tup, e_tupl_lst, e_tupl_ref, e_newT, e_newF, e_run_nm, e_run_tp, e_runs_nil, e_runs_cons, e_tru_bl, e_tru_int, e_tru_str, e_tru_lst, e_tru_tup, e_ty_str, e_ty_lst, e_ty_ref, e_append, e_insert, e_popAt, e_pop0, e_join, e_seqI_val, e_cut_str, e_cut_tup, e_cut_lst, e_cut_fz, e_cut_ref]
  refine draw_at (E := noX) h0 hp (by omega) (by omega) (by omega) fun w o1 w0 w1 p1 => ?_
  refine draw_at (E := noX) put_same p1 (by omega) (by omega) (by omega) fun r1 o2 a1 b1 p2 => ?_
  simp only [put_put, e_sp_draw, mSeq, mIfS, mAsg, mRet, mRetN, mDrop, mTest, mOp, mC, mVar, mSetI, mNext, mCB, mCons, mNil, mAndT, mOrT, mNotT, mTruT, mIf, mNeg, mOr, mAnd, mNot, mLst, mTup, mBM, mBM0, mPar, mCall, mCallK, mLstRg1, mTupRg1, mRng1, mRng2, mEnum, mZipT, mFor, mSl, mNoPart, mPart, mLc, wipeM, List.set_cons_zero, List.set_cons_succ, startM, List.map_cons, List.map_nil, List.cons_append, List.nil_append, List.length_cons, List.length_nil, List.replicate, List.getElem?_cons_zero, List.getElem?_cons_succ, Option.some.injEq, Nat.reduceSub, Nat.reduceAdd, true_and, exists_eq_left, exists_eq_left', e_ix_tup, e_ix_lst, e_ix_fz, e_ix_ref, e_lo_lst, e_lo_fz, e_lo_ref, e_so_lst, e_so_fz, e_so_tup, e_so_ref, e_hd_lst, e_hd_ref, e_add_int, e_add_str, e_add_tup, e_add_lst, e_sub_int, e_mul_int, e_mul_lst, e_mul_tup, e_mod_int, e_fdv_int, e_pow_int, e_lt_int, e_le_int, e_gt_int, e_ge_int, e_eq_int, e_ne_int, e_eq_str, e_ne_str, e_isN, e_notN, e_isN_non, e_isN_int, e_isN_tup, e_isN_str, e_isN_ref, e_isN_lst, e_abs, e_max2, e_min2, e_int_int, e_int_bl, e_str_int, e_str_str, e_str_non, e_len_str, e_len_tup, e_len_lst, e_len_fz, e_len_ref, e_list_tup, e_list_lst, e_list_fz, e_list_ref, e_tupl_tup, e_tupl_lst, e_tupl_ref, e_newT, e_newF, e_run_nm, e_run_tp, e_runs_nil, e_runs_cons, e_tru_bl, e_tru_int, e_tru_str, e_tru_lst, e_tru_tup, e_ty_str, e_ty_lst, e_ty_ref, e_append, e_insert, e_popAt, e_pop0, e_join, e_seqI_val, e_cut_str, e_cut_tup, e_cut_lst, e_cut_fz, e_cut_ref]
  refine draw_at (E := noX) put_same p2 (by omega) (by omega) (by omega) fun r2 o3 a2 b2 p3 => ?_
  simp only [put_put, e_sp_draw, mSeq, mIfS, mAsg, mRet, mRetN, mDrop, mTest, mOp, mC, mVar, mSetI, mNext, mCB, mCons, mNil, mAndT, mOrT, mNotT, mTruT, mIf, mNeg, mOr, mAnd, mNot, mLst, mTup, mBM, mBM0, mPar, mCall, mCallK, mLstRg1, mTupRg1, mRng1, mRng2, mEnum, mZipT, mFor, mSl, mNoPart, mPart, mLc, wipeM, List.set_cons_zero, List.set_cons_succ, startM, List.map_cons, List.map_nil, List.cons_append, List.nil_append, List.length_cons, List.length_nil, List.replicate, List.getElem?_cons_zero, List.getElem?_cons_succ, Option.some.injEq, Nat.reduceSub, Nat.reduceAdd, true_and, exists_eq_left, exists_eq_left', e_ix_tup, e_ix_lst, e_ix_fz, e_ix_ref, e_lo_lst, e_lo_fz, e_lo_ref, e_so_lst, e_so_fz, e_so_tup, e_so_ref, e_hd_lst, e_hd_ref, e_add_int, e_add_str, e_add_tup, e_add_lst, e_sub_int, e_mul_int, e_mul_lst, e_mul_tup, e_mod_int, e_fdv_int, e_pow_int, e_lt_int, e_le_int, e_gt_int, e_ge_int, e_eq_int, e_ne_int, e_eq_str, e_ne_str, e_isN, e_notN, e_isN_non, e_isN_int, e_isN_tup, e_isN_str, e_isN_ref, e_isN_lst, e_abs, e_max2, e_min2, e_int_int, e_int_bl, e_str_int, e_str_str, e_str_non, e_len_str, e_len_tup, e_len_lst, e_len_fz, e_len_ref, e_list_tup, e_list_lst, e_list_fz, e_list_ref, e_tupl_tup, e_tupl_lst, e_tupl_ref, e_newT, e_newF, e_run_nm, e_run_tp, e_runs_nil, e_runs_cons, e_tru_bl, e_tru_int, e_tru_str, e_tru_lst, e_tru_tup, e_ty_str, e_ty_lst, e_ty_ref, e_append, e_insert, e_popAt, e_pop0, e_join, e_seqI_val, e_cut_str, e_cut_tup, e_cut_lst, e_cut_fz, e_cut_ref]
  refine draw_at (E := noX) put_same p3 (by omega) (by omega) (by omega) fun r3 o4 a3 b3 p4 => ?_
  simp only [put_put, mSeq, mIfS, mAsg, mRet, mRetN, mDrop, mTest, mOp, mC, mVar, mSetI, mNext, mCB, mCons, mNil, mAndT, mOrT, mNotT, mTruT, mIf, mNeg, mOr, mAnd, mNot, mLst, mTup, mBM, mBM0, mPar, mCall, mCallK, mLstRg1, mTupRg1, mRng1, mRng2, mEnum, mZipT, mFor, mSl, mNoPart, mPart, mLc, wipeM, List.set_cons_zero, List.set_cons_succ, startM, List.map_cons, List.map_nil, List.cons_append, List.nil_append, List.length_cons, List.length_nil, List.replicate, List.getElem?_cons_zero, List.getElem?_cons_succ, Option.some.injEq, Nat.reduceSub, Nat.reduceAdd, true_and, exists_eq_left, exists_eq_left', e_ix_tup, e_ix_lst, e_ix_fz, e_ix_ref, e_lo_lst, e_lo_fz, e_lo_ref, e_so_lst, e_so_fz, e_so_tup, e_so_ref, e_hd_lst, e_hd_ref, e_add_int, e_add_str, e_add_tup, e_add_lst, e_sub_int, e_mul_int, e_mul_lst, e_mul_tup, e_mod_int, e_fdv_int, e_pow_int, e_lt_int, e_le_int, e_gt_int, e_ge_int, e_eq_int, e_ne_int, e_eq_str, e_ne_str, e_isN, e_notN, e_isN_non, e_isN_int, e_isN_tup, e_isN_str, e_isN_ref, e_isN_lst, e_abs, e_max2, e_min2, e_int_int, e_int_bl, e_str_int, e_str_str, e_str_non, e_len_str, e_len_tup, e_len_lst, e_len_fz, e_len_ref, e_list_tup, e_list_lst, e_list_fz, e_list_ref, e_tupl_tup, e_tupl_lst, e_tupl_ref, e_newT, e_newF, e_run_nm, e_run_tp, e_runs_nil, e_runs_cons, e_tru_bl, e_tru_int, e_tru_str, e_tru_lst, e_tru_tup, e_ty_str, e_ty_lst, e_ty_ref, e_append, e_insert, e_popAt, e_pop0, e_join, e_seqI_val, e_cut_str, e_cut_tup, e_cut_lst, e_cut_fz, e_cut_ref]
  refine ⟨by decide, ?_⟩
  have hw : w = 0 ∨ w = 1 ∨ w = 2 ∨ w = 3 := by omega
  have fin : ∀ z : Int, 1 ≤ z → less q (.int (if z < n then z else n)) (put G a o4) := fun z hz => by
    obtain ⟨k, hk⟩ : ∃ k : Nat, (if z < (n : Int) then z else (n : Int)) = (k : Int) := by
      refine ⟨(if z < (n : Int) then z else (n : Int)).toNat, ?_⟩
      split <;> omega
    rw [hk]
    exact less_here (kq k o4 (by split at hk <;> omega) (by split at hk <;> omega) p4)
  rcases hw with rfl | rfl | rfl | rfl
  · exact ⟨_, _, rfl, rfl, fin _ (by omega)⟩
  · exact ⟨_, _, rfl, rfl, fin _ (by omega)⟩
  · exact ⟨_, _, rfl, rfl, fin _ (by omega)⟩
  · exact ⟨_, _, rfl, rfl, fin _ (by omega)⟩
end Q81

set_option maxRecDepth 100000
namespace Q81
open PySem PySem.Spec L2 ML
open PyProof.Rows hiding St
structure LS (G : Gp) (a : Addr) (P : D → Prop) (L m : Nat) (as : List Addr) (G' : Gp) : Prop where
  na : a ∉ as
  new : ∀ b ∈ as, G b = none
  rows : RowsAt L P as G'
  pen : ∃ o', G' a = some o' ∧ Pen m o'
  old : ∀ b u, b ≠ a → G b = some u → G' b = some u
theorem RowOk.mono {L L' : Nat} {P : D → Prop} {row : List D} (h : RowOk L P row) (l : L ≤ L') : RowOk L' P row := ⟨Nat.le_trans h.1 l, h.2⟩
theorem RowOk.ins {L : Nat} {P : D → Prop} {row : List D} {x : D} (h : RowOk L P row) (hx : P x) (k : Nat) : RowOk (L + 1) P (row.take k ++ [x] ++ row.drop k) := by
  refine ⟨?_, fun y hy => ?_⟩
  · have := h.1
    rw [List.length_append, List.length_append, List.length_take, List.length_drop, List.length_singleton]; omega
  · rcases List.mem_append.mp hy with hy | hy
    · rcases List.mem_append.mp hy with hy | hy
      · exact h.2 y (List.mem_of_mem_take hy)
      · rw [List.mem_singleton] at hy; subst hy; exact hx
    · exact h.2 y (List.mem_of_mem_drop hy)
section
variable {G G' : Gp} {a b : Addr} {P : D → Prop} {L L' m m' : Nat} {as : List Addr}
theorem LS.mono (s : LS G a P L m as G') (h : L ≤ L') (h2 : m ≤ m') : LS G a P L' m' as G' :=
  ⟨s.na, s.new, fun b hb => let ⟨row, e, r⟩ := s.rows b hb; ⟨row, e, r.mono h⟩, let ⟨o, e, p⟩ := s.pen; ⟨o, e, p.mono h2⟩, s.old⟩
theorem LS.draw (s : LS G a P L m as G') {o' : MO} (p : Pen m' o') : LS G a P L m' as (put G' a o') :=
  ⟨s.na, s.new, fun b hb => let ⟨row, e, r⟩ := s.rows b hb; ⟨row, by rw [put_ne (fun z => s.na (by subst z; exact hb))]; exact e, r⟩, ⟨o', put_same, p⟩, fun b u hb e => by rw [put_ne hb]; exact s.old b u hb e⟩
theorem LS.row (s : LS G a P L m as G') (hb : b ∈ as) {row : List D} (r : RowOk L' P row) (h : L ≤ L') : LS G a P L' m as (put G' b (.lst row)) := by
  refine ⟨s.na, s.new, fun c hc => ?_, ?_, fun c u hc e => ?_⟩
  · by_cases hcb : c = b
    · subst hcb; exact ⟨row, put_same, r⟩
    · obtain ⟨r', e, r2⟩ := s.rows c hc
      exact ⟨r', by rw [put_ne hcb]; exact e, r2.mono h⟩
  · obtain ⟨o, e, p⟩ := s.pen
    exact ⟨o, by rw [put_ne (fun z => s.na (by subst z; exact hb))]; exact e, p⟩
  · have : c ≠ b := fun z => by subst z; rw [s.new _ hb] at e; cases e
    rw [put_ne this]; exact s.old c u hc e
/-- row.insert(draw(pen, len(row) + 1), x) -/
theorem LS.ins (s : LS G a P L m as G') (hb : b ∈ as) {x : D} (hx : P x) (hL : L ≤ 500) (hm : m ≤ 100000) {N : Gp → Prop} {E : MX} (h : ∀ G2, LS G a P (L + 1) (m + 1) as G2 → N G2) :
    (∃ xs, G' b = some (.lst xs)) ∧ ∃ ys, G' b = some (.lst ys) ∧ p_draw (.ref a) (.int ((ys.length : Int) + 1)) G' fun r G2 => mInsert (.ref b) [r, x] G2 fun _ G3 => N G3 := by
  obtain ⟨row, e, r⟩ := s.rows b hb
  refine ⟨⟨row, e⟩, row, e, ?_⟩
  obtain ⟨o, ea, p⟩ := s.pen
  have hl := r.1
  refine draw_at (E := E) ea p hm (by omega) (by omega) fun k o2 k0 k1 p2 => ?_
  have nab : b ≠ a := fun z => s.na (by subst z; exact hb)
  rw [e_insert]
  exact ⟨row, by rw [put_ne nab]; exact e, by have := sizeLine_eq; omega, k0, by omega, h _ (((s.draw p2).row hb (r.ins hx k.toNat) (Nat.le_succ _)))⟩
end
/-- [[] for k in range(n)] -/
theorem rows_new {G G1 : Gp} {a : Addr} {P : D → Prop} {m n k : Nat} {τ0 : Sl} {q : List D → Gp → Prop} (hn : n ≤ 1000) (hp : ∃ o, G1 a = some o ∧ Pen m o) (old : ∀ b u, b ≠ a → G b = some u → G1 b = some u)
    (h : ∀ as G', as.length = n → LS G a P 0 m as G' → q (as.map D.ref) G') : mComp (fun _ => True) (.nm k) mYes (mLst true mNil) τ0 (rng 0 ((n : Int)).toNat) [] G1 q := by
  refine comp_ind (fun i acc G' => ∃ as, acc = as.map D.ref ∧ as.length = i ∧ LS G a P 0 m as G') ?_ ?_ ?_
  · rintro i w acc G' N hw ⟨as, rfl, hl, s⟩ hN
    obtain ⟨hi, rfl⟩ := rng_at hw
    refine ⟨trivial, ?_⟩
    simp only [mYes, mSeq, mIfS, mAsg, mRet, mRetN, mDrop, mTest, mOp, mC, mVar, mSetI, mNext, mCB, mCons, mNil, mAndT, mOrT, mNotT, mTruT, mIf, mNeg, mOr, mAnd, mNot, mLst, mTup, mBM, mBM0, mPar, mCall, mCallK, mLstRg1, mTupRg1, mRng1, mRng2, mEnum, mZipT, mFor, mSl, mNoPart, mPart, mLc, wipeM, List.set_cons_zero, List.set_cons_succ, startM, List.map_cons, List.map_nil, List.cons_append, List.nil_append, List.length_cons, List.length_nil, List.replicate, List.getElem?_cons_zero, List.getElem?_cons_succ, Option.some.injEq, Nat.reduceSub, Nat.reduceAdd, true_and, exists_eq_left, exists_eq_left', e_ix_tup, e_ix_lst, e_ix_fz, e_ix_ref, e_lo_lst, e_lo_fz, e_lo_ref, e_so_lst, e_so_fz, e_so_tup, e_so_ref, e_hd_lst, e_hd_ref, e_add_int, e_add_str, e_add_tup, e_add_lst, e_sub_int, e_mul_int, e_mul_lst, e_mul_tup, e_mod_int, e_fdv_int, e_pow_int, e_lt_int, e_le_int, e_gt_int, e_ge_int, e_eq_int, e_ne_int, e_eq_str, e_ne_str, e_isN, e_notN, e_isN_non, e_isN_int, e_isN_tup, e_isN_str, e_isN_ref, e_isN_lst, e_abs, e_max2, e_min2, e_int_int, e_int_bl, e_str_int, e_str_str, e_str_non, e_len_str, e_len_tup, e_len_lst, e_len_fz, e_len_ref, e_list_tup, e_list_lst, e_list_fz, e_list_ref, e_tupl_tup, e_tupl_lst, e_tupl_ref, e_newT, e_newF, e_run_nm, e_run_tp, e_runs_nil, e_runs_cons, e_tru_bl, e_tru_int, e_tru_str, e_tru_lst, e_tru_tup, e_ty_str, e_ty_lst, e_ty_ref, e_append, e_insert, e_popAt, e_pop0, e_join, e_seqI_val, e_cut_str, e_cut_tup, e_cut_lst, e_cut_fz, e_cut_ref]
    refine ⟨by have := sizeLine_eq; omega, fun p hpf => ⟨by rw [List.length_map]; have := sizeLine_eq; omega, hN _ _ ⟨as ++ [p], by rw [List.map_append]; rfl, by rw [List.length_append, hl]; rfl, ?_⟩⟩⟩
    have nap : a ≠ p := by obtain ⟨o', e, _⟩ := s.pen; exact ne_of_fresh e hpf
    have hGp : G p = none := by
      cases e : G p with
      | none => rfl
      | some u => rw [s.old p u nap.symm e] at hpf; cases hpf
    refine ⟨fun z => ?_, fun b hb => ?_, fun b hb => ?_, ?_, fun b u hb e => ?_⟩
    · rcases List.mem_append.mp z with z | z
      · exact s.na z
      · exact nap (List.mem_singleton.mp z)
    · rcases List.mem_append.mp hb with z | z
      · exact s.new b z
      · rw [List.mem_singleton.mp z]; exact hGp
    · by_cases hbp : b = p
      · subst hbp; exact ⟨[], put_same, Nat.le_refl _, fun _ h => nomatch h⟩
      · rcases List.mem_append.mp hb with z | z
        · obtain ⟨row, e, r⟩ := s.rows b z; exact ⟨row, by rw [put_ne hbp]; exact e, r⟩
        · exact absurd (List.mem_singleton.mp z) hbp
    · obtain ⟨o', e, p'⟩ := s.pen; exact ⟨o', by rw [put_ne nap]; exact e, p'⟩
    · have : b ≠ p := fun z => by subst z; rw [hGp] at e; cases e
      rw [put_ne this]; exact s.old b u hb e
  · rintro acc G' ⟨as, rfl, hl, s⟩
    rw [rng_len] at hl
    exact ⟨trivial, h as G' (by simpa using hl) s⟩
  · exact ⟨[], rfl, rfl, fun h => (nomatch h), fun _ h => (nomatch h), fun _ h => (nomatch h), hp, old⟩
/-- the slots of links -/
def τL (a : Addr) (n : Nat) (way deep : Int) (as : List Addr) (v5 v6 v7 v8 v9 v10 : Option D) : Sl := [some (.ref a), some (.int n), some (.int way), some (.int deep), some (.lst (as.map D.ref)), v5, v6, v7, v8, v9, v10]
theorem at_refs {as : List Addr} {i : Int} (h0 : 0 ≤ i) (h1 : i < as.length) : ∃ b, atI (as.map D.ref) i = some (.ref b) ∧ b ∈ as := by
  obtain ⟨w, hw, hm, _⟩ := at_in (xs := as.map D.ref) h0 (by rw [List.length_map]; exact h1)
  obtain ⟨b, hb, rfl⟩ := List.mem_map.mp hm
  exact ⟨b, hw, hb⟩
theorem law_links (x0 x1 : D) (G : Gp) (q : MK) (h : p_links x0 x1 G q) : b_links { nx := fun _ G' => less q .non G', rt := less q } (startM ["_law_pen_here", "_law_size_here", "_law_way", "_law_deep", "_law_rows", "_law_k", "_law_v", "_law_holder", "_law_row", "_law_a", "_law_b"] [x0, x1]) G := by
  obtain ⟨a, n, m, o, rfl, rfl, hn, hn2, h0, hp, hm, kq⟩ := h
  simp only [b_links, b_links_2, e_sp_draw, mSeq, mIfS, mAsg, mRet, mRetN, mDrop, mTest, mOp, mC, mVar, mSetI, mNext, mCB, mCons, mNil, mAndT, mOrT, mNotT, mTruT, mIf, mNeg, mOr, mAnd, mNot, mLst, mTup, mBM, mBM0, mPar, mCall, mCallK, mLstRg1, mTupRg1, mRng1, mRng2, mEnum, mZipT, mFor, mSl, mNoPart, mPart, mLc, wipeM, List.set_cons_zero, List.set_cons_succ, startM, List.map_cons, List.map_nil, List.cons_append, List.nil_append, List.length_cons, List.length_nil, List.replicate, List.getElem?_cons_zero, List.getElem?_cons_succ, Option.some.injEq, Nat.reduceSub, Nat.reduceAdd, true_and, exists_eq_left, exists_eq_left', e_ix_tup, e_ix_lst, e_ix_fz, e_ix_ref, e_lo_lst, e_lo_fz, e_lo_ref, e_so_lst, e_so_fz, e_so_tup, e_so_ref, e_hd_lst, e_hd_ref, e_add_int, e_add_str, e_add_tup, e_add_lst, e_sub_int, e_mul_int, e_mul_lst, e_mul_tup, e_mod_int, e_fdv_int, e_pow_int, e_lt_int, e_le_int, e_gt_int, e_ge_int, e_eq_int, e_ne_int, e_eq_str, e_ne_str, e_isN, e_notN, e_isN_non, e_isN_int, e_isN_tup, e_isN_str, e_isN_ref, e_isN_lst, e_abs, e_max2, e_min2, e_int_int, e_int_bl, e_str_int, e_str_str, e_str_non, e_len_str, e_len_tup, e_len_lst, e_len_fz, e_len_ref, e_list_tup, e_list_lst, e_list_fz, e_list_ref, e_tupl_tup, e_tupl_lst, e_tupl_ref, e_newT, e_newF, e_run_nm, e_run_tp, e_runs_nil, e_runs_cons, e_tru_bl, e_tru_int, e_tru_str, e_tru_lst, e_tru_tup, e_ty_str, e_ty_lst, e_ty_ref, e_append, e_insert, e_popAt, e_pop0, e_join, e_seqI_val, e_cut_str, e_cut_tup, e_cut_lst, e_cut_fz, e_cut_ref]
  refine draw_at (E := noX) h0 hp (by omega) (by omega) (by omega) fun way o1 w0 w1 p1 => ?_
  refine draw_at (E := noX) put_same p1 (by omega) (by omega) (by omega) fun deep o2 d0 d1 p2 => ?_
  simp only [put_put, b_links_3, mSeq, mIfS, mAsg, mRet, mRetN, mDrop, mTest, mOp, mC, mVar, mSetI, mNext, mCB, mCons, mNil, mAndT, mOrT, mNotT, mTruT, mIf, mNeg, mOr, mAnd, mNot, mLst, mTup, mBM, mBM0, mPar, mCall, mCallK, mLstRg1, mTupRg1, mRng1, mRng2, mEnum, mZipT, mFor, mSl, mNoPart, mPart, mLc, wipeM, List.set_cons_zero, List.set_cons_succ, startM, List.map_cons, List.map_nil, List.cons_append, List.nil_append, List.length_cons, List.length_nil, List.replicate, List.getElem?_cons_zero, List.getElem?_cons_succ, Option.some.injEq, Nat.reduceSub, Nat.reduceAdd, true_and, exists_eq_left, exists_eq_left', e_ix_tup, e_ix_lst, e_ix_fz, e_ix_ref, e_lo_lst, e_lo_fz, e_lo_ref, e_so_lst, e_so_fz, e_so_tup, e_so_ref, e_hd_lst, e_hd_ref, e_add_int, e_add_str, e_add_tup, e_add_lst, e_sub_int, e_mul_int, e_mul_lst, e_mul_tup, e_mod_int, e_fdv_int, e_pow_int, e_lt_int, e_le_int, e_gt_int, e_ge_int, e_eq_int, e_ne_int, e_eq_str, e_ne_str, e_isN, e_notN, e_isN_non, e_isN_int, e_isN_tup, e_isN_str, e_isN_ref, e_isN_lst, e_abs, e_max2, e_min2, e_int_int, e_int_bl, e_str_int, e_str_str, e_str_non, e_len_str, e_len_tup, e_len_lst, e_len_fz, e_len_ref, e_list_tup, e_list_lst, e_list_fz, e_list_ref, e_tupl_tup, e_tupl_lst, e_tupl_ref, e_newT, e_newF, e_run_nm, e_run_tp, e_runs_nil, e_runs_cons, e_tru_bl, e_tru_int, e_tru_str, e_tru_lst, e_tru_tup, e_ty_str, e_ty_lst, e_ty_ref, e_append, e_insert, e_popAt, e_pop0, e_join, e_seqI_val, e_cut_str, e_cut_tup, e_cut_lst, e_cut_fz, e_cut_ref]
  refine ⟨⟨by omega, by omega⟩, rows_new (a := a) (P := RefOk n) (G := G) (by omega) ⟨o2, put_same, p2⟩ (fun b u hb e => by rw [put_ne hb]; exact e) fun as G' hl' s => ?_⟩
  -- the third loop and the end
  have last : ∀ τ G', (∃ v5 v6 v7 v8 v9 v10, τ = τL a n way deep as v5 v6 v7 v8 v9 v10) → LS G a (RefOk n) 39 (m + 900) as G' → b_links_16 { nx := fun x G' => less q D.non G', rt := less q } τ G' := by
    rintro τ G' ⟨v5, v6, v7, v8, v9, v10, rfl⟩ s
    simp only [b_links_16, τL, mSeq, mIfS, mAsg, mRet, mRetN, mDrop, mTest, mOp, mC, mVar, mSetI, mNext, mCB, mCons, mNil, mAndT, mOrT, mNotT, mTruT, mIf, mNeg, mOr, mAnd, mNot, mLst, mTup, mBM, mBM0, mPar, mCall, mCallK, mLstRg1, mTupRg1, mRng1, mRng2, mEnum, mZipT, mFor, mSl, mNoPart, mPart, mLc, wipeM, List.set_cons_zero, List.set_cons_succ, startM, List.map_cons, List.map_nil, List.cons_append, List.nil_append, List.length_cons, List.length_nil, List.replicate, List.getElem?_cons_zero, List.getElem?_cons_succ, Option.some.injEq, Nat.reduceSub, Nat.reduceAdd, true_and, exists_eq_left, exists_eq_left', e_ix_tup, e_ix_lst, e_ix_fz, e_ix_ref, e_lo_lst, e_lo_fz, e_lo_ref, e_so_lst, e_so_fz, e_so_tup, e_so_ref, e_hd_lst, e_hd_ref, e_add_int, e_add_str, e_add_tup, e_add_lst, e_sub_int, e_mul_int, e_mul_lst, e_mul_tup, e_mod_int, e_fdv_int, e_pow_int, e_lt_int, e_le_int, e_gt_int, e_ge_int, e_eq_int, e_ne_int, e_eq_str, e_ne_str, e_isN, e_notN, e_isN_non, e_isN_int, e_isN_tup, e_isN_str, e_isN_ref, e_isN_lst, e_abs, e_max2, e_min2, e_int_int, e_int_bl, e_str_int, e_str_str, e_str_non, e_len_str, e_len_tup, e_len_lst, e_len_fz, e_len_ref, e_list_tup, e_list_lst, e_list_fz, e_list_ref, e_tupl_tup, e_tupl_lst, e_tupl_ref, e_newT, e_newF, e_run_nm, e_run_tp, e_runs_nil, e_runs_cons, e_tru_bl, e_tru_int, e_tru_str, e_tru_lst, e_tru_tup, e_ty_str, e_ty_lst, e_ty_ref, e_append, e_insert, e_popAt, e_pop0, e_join, e_seqI_val, e_cut_str, e_cut_tup, e_cut_lst, e_cut_fz, e_cut_ref]
    refine loop_ind (fun i τ G' => ∃ v8, τ = τL a n way deep as v5 v6 v7 v8 v9 v10 ∧ LS G a (RefOk n) (39 + i) (m + 900 + 2 * i) as G') ?_ ?_ ⟨v8, rfl, s⟩
    · rintro i w τ G' N hw ⟨v8, rfl, s⟩ hN
      have hi : i < n := by rw [← hl', ← List.length_map (f := D.ref)]; exact (List.getElem?_eq_some_iff.mp hw).1
      obtain ⟨b, hb, rfl⟩ := List.mem_map.mp (List.mem_of_getElem? hw)
      refine ⟨trivial, ?_⟩
      simp only [τL, b_links_17, e_sp_draw, mSeq, mIfS, mAsg, mRet, mRetN, mDrop, mTest, mOp, mC, mVar, mSetI, mNext, mCB, mCons, mNil, mAndT, mOrT, mNotT, mTruT, mIf, mNeg, mOr, mAnd, mNot, mLst, mTup, mBM, mBM0, mPar, mCall, mCallK, mLstRg1, mTupRg1, mRng1, mRng2, mEnum, mZipT, mFor, mSl, mNoPart, mPart, mLc, wipeM, List.set_cons_zero, List.set_cons_succ, startM, List.map_cons, List.map_nil, List.cons_append, List.nil_append, List.length_cons, List.length_nil, List.replicate, List.getElem?_cons_zero, List.getElem?_cons_succ, Option.some.injEq, Nat.reduceSub, Nat.reduceAdd, true_and, exists_eq_left, exists_eq_left', e_ix_tup, e_ix_lst, e_ix_fz, e_ix_ref, e_lo_lst, e_lo_fz, e_lo_ref, e_so_lst, e_so_fz, e_so_tup, e_so_ref, e_hd_lst, e_hd_ref, e_add_int, e_add_str, e_add_tup, e_add_lst, e_sub_int, e_mul_int, e_mul_lst, e_mul_tup, e_mod_int, e_fdv_int, e_pow_int, e_lt_int, e_le_int, e_gt_int, e_ge_int, e_eq_int, e_ne_int, e_eq_str, e_ne_str, e_isN, e_notN, e_isN_non, e_isN_int, e_isN_tup, e_isN_str, e_isN_ref, e_isN_lst, e_abs, e_max2, e_min2, e_int_int, e_int_bl, e_str_int, e_str_str, e_str_non, e_len_str, e_len_tup, e_len_lst, e_len_fz, e_len_ref, e_list_tup, e_list_lst, e_list_fz, e_list_ref, e_tupl_tup, e_tupl_lst, e_tupl_ref, e_newT, e_newF, e_run_nm, e_run_tp, e_runs_nil, e_runs_cons, e_tru_bl, e_tru_int, e_tru_str, e_tru_lst, e_tru_tup, e_ty_str, e_ty_lst, e_ty_ref, e_append, e_insert, e_popAt, e_pop0, e_join, e_seqI_val, e_cut_str, e_cut_tup, e_cut_lst, e_cut_fz, e_cut_ref]
      obtain ⟨o', ea, p'⟩ := s.pen
      refine draw_at (E := noX) ea p' (by omega) (by omega) (by omega) fun r o2 r0 r1 p2 => ?_
      have s2 := s.draw p2
      simp only [mSeq, mIfS, mAsg, mRet, mRetN, mDrop, mTest, mOp, mC, mVar, mSetI, mNext, mCB, mCons, mNil, mAndT, mOrT, mNotT, mTruT, mIf, mNeg, mOr, mAnd, mNot, mLst, mTup, mBM, mBM0, mPar, mCall, mCallK, mLstRg1, mTupRg1, mRng1, mRng2, mEnum, mZipT, mFor, mSl, mNoPart, mPart, mLc, wipeM, List.set_cons_zero, List.set_cons_succ, startM, List.map_cons, List.map_nil, List.cons_append, List.nil_append, List.length_cons, List.length_nil, List.replicate, List.getElem?_cons_zero, List.getElem?_cons_succ, Option.some.injEq, Nat.reduceSub, Nat.reduceAdd, true_and, exists_eq_left, exists_eq_left', e_ix_tup, e_ix_lst, e_ix_fz, e_ix_ref, e_lo_lst, e_lo_fz, e_lo_ref, e_so_lst, e_so_fz, e_so_tup, e_so_ref, e_hd_lst, e_hd_ref, e_add_int, e_add_str, e_add_tup, e_add_lst, e_sub_int, e_mul_int, e_mul_lst, e_mul_tup, e_mod_int, e_fdv_int, e_pow_int, e_lt_int, e_le_int, e_gt_int, e_ge_int, e_eq_int, e_ne_int, e_eq_str, e_ne_str, e_isN, e_notN, e_isN_non, e_isN_int, e_isN_tup, e_isN_str, e_isN_ref, e_isN_lst, e_abs, e_max2, e_min2, e_int_int, e_int_bl, e_str_int, e_str_str, e_str_non, e_len_str, e_len_tup, e_len_lst, e_len_fz, e_len_ref, e_list_tup, e_list_lst, e_list_fz, e_list_ref, e_tupl_tup, e_tupl_lst, e_tupl_ref, e_newT, e_newF, e_run_nm, e_run_tp, e_runs_nil, e_runs_cons, e_tru_bl, e_tru_int, e_tru_str, e_tru_lst, e_tru_tup, e_ty_str, e_ty_lst, e_ty_ref, e_append, e_insert, e_popAt, e_pop0, e_join, e_seqI_val, e_cut_str, e_cut_tup, e_cut_lst, e_cut_fz, e_cut_ref]
      by_cases hr : r = 0
      · simp only [hr, decide_true, b_links_18, e_sp_draw, mSeq, mIfS, mAsg, mRet, mRetN, mDrop, mTest, mOp, mC, mVar, mSetI, mNext, mCB, mCons, mNil, mAndT, mOrT, mNotT, mTruT, mIf, mNeg, mOr, mAnd, mNot, mLst, mTup, mBM, mBM0, mPar, mCall, mCallK, mLstRg1, mTupRg1, mRng1, mRng2, mEnum, mZipT, mFor, mSl, mNoPart, mPart, mLc, wipeM, List.set_cons_zero, List.set_cons_succ, startM, List.map_cons, List.map_nil, List.cons_append, List.nil_append, List.length_cons, List.length_nil, List.replicate, List.getElem?_cons_zero, List.getElem?_cons_succ, Option.some.injEq, Nat.reduceSub, Nat.reduceAdd, true_and, exists_eq_left, exists_eq_left', e_ix_tup, e_ix_lst, e_ix_fz, e_ix_ref, e_lo_lst, e_lo_fz, e_lo_ref, e_so_lst, e_so_fz, e_so_tup, e_so_ref, e_hd_lst, e_hd_ref, e_add_int, e_add_str, e_add_tup, e_add_lst, e_sub_int, e_mul_int, e_mul_lst, e_mul_tup, e_mod_int, e_fdv_int, e_pow_int, e_lt_int, e_le_int, e_gt_int, e_ge_int, e_eq_int, e_ne_int, e_eq_str, e_ne_str, e_isN, e_notN, e_isN_non, e_isN_int, e_isN_tup, e_isN_str, e_isN_ref, e_isN_lst, e_abs, e_max2, e_min2, e_int_int, e_int_bl, e_str_int, e_str_str, e_str_non, e_len_str, e_len_tup, e_len_lst, e_len_fz, e_len_ref, e_list_tup, e_list_lst, e_list_fz, e_list_ref, e_tupl_tup, e_tupl_lst, e_tupl_ref, e_newT, e_newF, e_run_nm, e_run_tp, e_runs_nil, e_runs_cons, e_tru_bl, e_tru_int, e_tru_str, e_tru_lst, e_tru_tup, e_ty_str, e_ty_lst, e_ty_ref, e_append, e_insert, e_popAt, e_pop0, e_join, e_seqI_val, e_cut_str, e_cut_tup, e_cut_lst, e_cut_fz, e_cut_ref]
        exact s2.ins hb (.inl rfl) (by omega) (by omega) (E := noX) fun G3 s3 => hN _ _ ⟨_, rfl, s3.mono (by omega) (by omega)⟩
      · simp only [hr, decide_false, mSeq, mIfS, mAsg, mRet, mRetN, mDrop, mTest, mOp, mC, mVar, mSetI, mNext, mCB, mCons, mNil, mAndT, mOrT, mNotT, mTruT, mIf, mNeg, mOr, mAnd, mNot, mLst, mTup, mBM, mBM0, mPar, mCall, mCallK, mLstRg1, mTupRg1, mRng1, mRng2, mEnum, mZipT, mFor, mSl, mNoPart, mPart, mLc, wipeM, List.set_cons_zero, List.set_cons_succ, startM, List.map_cons, List.map_nil, List.cons_append, List.nil_append, List.length_cons, List.length_nil, List.replicate, List.getElem?_cons_zero, List.getElem?_cons_succ, Option.some.injEq, Nat.reduceSub, Nat.reduceAdd, true_and, exists_eq_left, exists_eq_left', e_ix_tup, e_ix_lst, e_ix_fz, e_ix_ref, e_lo_lst, e_lo_fz, e_lo_ref, e_so_lst, e_so_fz, e_so_tup, e_so_ref, e_hd_lst, e_hd_ref, e_add_int, e_add_str, e_add_tup, e_add_lst, e_sub_int, e_mul_int, e_mul_lst, e_mul_tup, e_mod_int, e_fdv_int, e_pow_int, e_lt_int, e_le_int, e_gt_int, e_ge_int, e_eq_int, e_ne_int, e_eq_str, e_ne_str, e_isN, e_notN, e_isN_non, e_isN_int, e_isN_tup, e_isN_str, e_isN_ref, e_isN_lst, e_abs, e_max2, e_min2, e_int_int, e_int_bl, e_str_int, e_str_str, e_str_non, e_len_str, e_len_tup, e_len_lst, e_len_fz, e_len_ref, e_list_tup, e_list_lst, e_list_fz, e_list_ref, e_tupl_tup, e_tupl_lst, e_tupl_ref, e_newT, e_newF, e_run_nm, e_run_tp, e_runs_nil, e_runs_cons, e_tru_bl, e_tru_int, e_tru_str, e_tru_lst, e_tru_tup, e_ty_str, e_ty_lst, e_ty_ref, e_append, e_insert, e_popAt, e_pop0, e_join, e_seqI_val, e_cut_str, e_cut_tup, e_cut_lst, e_cut_fz, e_cut_ref]
        exact hN _ _ ⟨_, rfl, s2.mono (by omega) (by omega)⟩
    · rintro τ G' ⟨v8, rfl, s⟩
      refine ⟨trivial, ?_⟩
      simp only [τL, b_links_19, mSeq, mIfS, mAsg, mRet, mRetN, mDrop, mTest, mOp, mC, mVar, mSetI, mNext, mCB, mCons, mNil, mAndT, mOrT, mNotT, mTruT, mIf, mNeg, mOr, mAnd, mNot, mLst, mTup, mBM, mBM0, mPar, mCall, mCallK, mLstRg1, mTupRg1, mRng1, mRng2, mEnum, mZipT, mFor, mSl, mNoPart, mPart, mLc, wipeM, List.set_cons_zero, List.set_cons_succ, startM, List.map_cons, List.map_nil, List.cons_append, List.nil_append, List.length_cons, List.length_nil, List.replicate, List.getElem?_cons_zero, List.getElem?_cons_succ, Option.some.injEq, Nat.reduceSub, Nat.reduceAdd, true_and, exists_eq_left, exists_eq_left', e_ix_tup, e_ix_lst, e_ix_fz, e_ix_ref, e_lo_lst, e_lo_fz, e_lo_ref, e_so_lst, e_so_fz, e_so_tup, e_so_ref, e_hd_lst, e_hd_ref, e_add_int, e_add_str, e_add_tup, e_add_lst, e_sub_int, e_mul_int, e_mul_lst, e_mul_tup, e_mod_int, e_fdv_int, e_pow_int, e_lt_int, e_le_int, e_gt_int, e_ge_int, e_eq_int, e_ne_int, e_eq_str, e_ne_str, e_isN, e_notN, e_isN_non, e_isN_int, e_isN_tup, e_isN_str, e_isN_ref, e_isN_lst, e_abs, e_max2, e_min2, e_int_int, e_int_bl, e_str_int, e_str_str, e_str_non, e_len_str, e_len_tup, e_len_lst, e_len_fz, e_len_ref, e_list_tup, e_list_lst, e_list_fz, e_list_ref, e_tupl_tup, e_tupl_lst, e_tupl_ref, e_newT, e_newF, e_run_nm, e_run_tp, e_runs_nil, e_runs_cons, e_tru_bl, e_tru_int, e_tru_str, e_tru_lst, e_tru_tup, e_ty_str, e_ty_lst, e_ty_ref, e_append, e_insert, e_popAt, e_pop0, e_join, e_seqI_val, e_cut_str, e_cut_tup, e_cut_lst, e_cut_fz, e_cut_ref]
      rw [List.length_map, hl'] at s
      refine less_here (kq as G' hl' s.na s.new (s.mono (by omega) (Nat.le_refl _)).rows ?_ s.old)
      obtain ⟨o', e, p'⟩ := s.pen
      exact ⟨o', e, p'.mono (by omega)⟩
  -- the second loop
  have mid : ∀ τ G', (∃ v5 v6 v7 v8 v9 v10, τ = τL a n way deep as v5 v6 v7 v8 v9 v10) → LS G a (RefOk n) 39 (m + 300) as G' → b_links_8 { nx := fun x G' => less q D.non G', rt := less q } τ G' := by
    rintro τ G' ⟨v5, v6, v7, v8, v9, v10, rfl⟩ s
    simp only [b_links_8, τL, e_sp_draw, mSeq, mIfS, mAsg, mRet, mRetN, mDrop, mTest, mOp, mC, mVar, mSetI, mNext, mCB, mCons, mNil, mAndT, mOrT, mNotT, mTruT, mIf, mNeg, mOr, mAnd, mNot, mLst, mTup, mBM, mBM0, mPar, mCall, mCallK, mLstRg1, mTupRg1, mRng1, mRng2, mEnum, mZipT, mFor, mSl, mNoPart, mPart, mLc, wipeM, List.set_cons_zero, List.set_cons_succ, startM, List.map_cons, List.map_nil, List.cons_append, List.nil_append, List.length_cons, List.length_nil, List.replicate, List.getElem?_cons_zero, List.getElem?_cons_succ, Option.some.injEq, Nat.reduceSub, Nat.reduceAdd, true_and, exists_eq_left, exists_eq_left', e_ix_tup, e_ix_lst, e_ix_fz, e_ix_ref, e_lo_lst, e_lo_fz, e_lo_ref, e_so_lst, e_so_fz, e_so_tup, e_so_ref, e_hd_lst, e_hd_ref, e_add_int, e_add_str, e_add_tup, e_add_lst, e_sub_int, e_mul_int, e_mul_lst, e_mul_tup, e_mod_int, e_fdv_int, e_pow_int, e_lt_int, e_le_int, e_gt_int, e_ge_int, e_eq_int, e_ne_int, e_eq_str, e_ne_str, e_isN, e_notN, e_isN_non, e_isN_int, e_isN_tup, e_isN_str, e_isN_ref, e_isN_lst, e_abs, e_max2, e_min2, e_int_int, e_int_bl, e_str_int, e_str_str, e_str_non, e_len_str, e_len_tup, e_len_lst, e_len_fz, e_len_ref, e_list_tup, e_list_lst, e_list_fz, e_list_ref, e_tupl_tup, e_tupl_lst, e_tupl_ref, e_newT, e_newF, e_run_nm, e_run_tp, e_runs_nil, e_runs_cons, e_tru_bl, e_tru_int, e_tru_str, e_tru_lst, e_tru_tup, e_ty_str, e_ty_lst, e_ty_ref, e_append, e_insert, e_popAt, e_pop0, e_join, e_seqI_val, e_cut_str, e_cut_tup, e_cut_lst, e_cut_fz, e_cut_ref]
    obtain ⟨o', ea, p'⟩ := s.pen
    refine draw_at (E := noX) ea p' (by omega) (by omega) (by omega) fun c o2 c0 c1 p2 => ?_
    have s2 := s.draw p2
    refine ⟨cmul_l (by decide) (by decide), by decide, ?_⟩
    have go : ∀ t : Int, 0 ≤ t → t ≤ 80 → (-(2 ^ 62) ≤ t ∧ t < 2 ^ 62) ∧ mLoop (fun x => True) (.nm 5) b_links_9 { nx := b_links_16 { nx := fun x G' => less q D.non G', rt := less q }, rt := less q } (rng 0 t.toNat) [some (D.ref a), some (D.int n), some (D.int way), some (D.int deep), some (D.lst (as.map D.ref)), v5, v6, v7, v8, v9, v10] (put G' a o2) := by
      intro t t0 t1
      refine ⟨⟨by omega, by omega⟩, loop_ind (fun i τ G' => (∃ v5 v6 v7 v8 v9 v10, τ = τL a n way deep as v5 v6 v7 v8 v9 v10) ∧ LS G a (RefOk n) 39 (m + 301 + 4 * i) as G') ?_ ?_ ⟨⟨_, _, _, _, _, _, rfl⟩, s2⟩⟩
      · rintro i w τ G' N hw ⟨⟨v5, v6, v7, v8, v9, v10, rfl⟩, s⟩ hN
        obtain ⟨hi, rfl⟩ := rng_at hw
        have hi' : i < 80 := by omega
        refine ⟨trivial, ?_⟩
        -- row = rows[x]; ..
        have tail : ∀ (x y : Int) (M : Nat) (G' : Gp) (v5 v6 v7 v8 : Option D), 0 ≤ x → x < n → 0 ≤ y → y < n → M + 1 ≤ m + 301 + 4 * (i + 1) → LS G a (RefOk n) 39 M as G' → b_links_13 { nx := N, rt := less q, bk := b_links_16 { nx := fun x G' => less q D.non G', rt := less q }, ct := N } (τL a n way deep as v5 v6 v7 v8 (some (.int x)) (some (.int y))) G' := by
          intro x y M G' v5 v6 v7 v8 x0 x1 y0 y1 hM s
          simp only [b_links_13, b_links_14, τL, mSeq, mIfS, mAsg, mRet, mRetN, mDrop, mTest, mOp, mC, mVar, mSetI, mNext, mCB, mCons, mNil, mAndT, mOrT, mNotT, mTruT, mIf, mNeg, mOr, mAnd, mNot, mLst, mTup, mBM, mBM0, mPar, mCall, mCallK, mLstRg1, mTupRg1, mRng1, mRng2, mEnum, mZipT, mFor, mSl, mNoPart, mPart, mLc, wipeM, List.set_cons_zero, List.set_cons_succ, startM, List.map_cons, List.map_nil, List.cons_append, List.nil_append, List.length_cons, List.length_nil, List.replicate, List.getElem?_cons_zero, List.getElem?_cons_succ, Option.some.injEq, Nat.reduceSub, Nat.reduceAdd, true_and, exists_eq_left, exists_eq_left', e_ix_tup, e_ix_lst, e_ix_fz, e_ix_ref, e_lo_lst, e_lo_fz, e_lo_ref, e_so_lst, e_so_fz, e_so_tup, e_so_ref, e_hd_lst, e_hd_ref, e_add_int, e_add_str, e_add_tup, e_add_lst, e_sub_int, e_mul_int, e_mul_lst, e_mul_tup, e_mod_int, e_fdv_int, e_pow_int, e_lt_int, e_le_int, e_gt_int, e_ge_int, e_eq_int, e_ne_int, e_eq_str, e_ne_str, e_isN, e_notN, e_isN_non, e_isN_int, e_isN_tup, e_isN_str, e_isN_ref, e_isN_lst, e_abs, e_max2, e_min2, e_int_int, e_int_bl, e_str_int, e_str_str, e_str_non, e_len_str, e_len_tup, e_len_lst, e_len_fz, e_len_ref, e_list_tup, e_list_lst, e_list_fz, e_list_ref, e_tupl_tup, e_tupl_lst, e_tupl_ref, e_newT, e_newF, e_run_nm, e_run_tp, e_runs_nil, e_runs_cons, e_tru_bl, e_tru_int, e_tru_str, e_tru_lst, e_tru_tup, e_ty_str, e_ty_lst, e_ty_ref, e_append, e_insert, e_popAt, e_pop0, e_join, e_seqI_val, e_cut_str, e_cut_tup, e_cut_lst, e_cut_fz, e_cut_ref]
          obtain ⟨b, hb, hmem⟩ := at_refs (as := as) x0 (by omega)
          refine ⟨_, _, rfl, hb, ?_⟩
          obtain ⟨row, e, r⟩ := s.rows b hmem
          simp only [mSeq, mIfS, mAsg, mRet, mRetN, mDrop, mTest, mOp, mC, mVar, mSetI, mNext, mCB, mCons, mNil, mAndT, mOrT, mNotT, mTruT, mIf, mNeg, mOr, mAnd, mNot, mLst, mTup, mBM, mBM0, mPar, mCall, mCallK, mLstRg1, mTupRg1, mRng1, mRng2, mEnum, mZipT, mFor, mSl, mNoPart, mPart, mLc, wipeM, List.set_cons_zero, List.set_cons_succ, startM, List.map_cons, List.map_nil, List.cons_append, List.nil_append, List.length_cons, List.length_nil, List.replicate, List.getElem?_cons_zero, List.getElem?_cons_succ, Option.some.injEq, Nat.reduceSub, Nat.reduceAdd, true_and, exists_eq_left, exists_eq_left', e_ix_tup, e_ix_lst, e_ix_fz, e_ix_ref, e_lo_lst, e_lo_fz, e_lo_ref, e_so_lst, e_so_fz, e_so_tup, e_so_ref, e_hd_lst, e_hd_ref, e_add_int, e_add_str, e_add_tup, e_add_lst, e_sub_int, e_mul_int, e_mul_lst, e_mul_tup, e_mod_int, e_fdv_int, e_pow_int, e_lt_int, e_le_int, e_gt_int, e_ge_int, e_eq_int, e_ne_int, e_eq_str, e_ne_str, e_isN, e_notN, e_isN_non, e_isN_int, e_isN_tup, e_isN_str, e_isN_ref, e_isN_lst, e_abs, e_max2, e_min2, e_int_int, e_int_bl, e_str_int, e_str_str, e_str_non, e_len_str, e_len_tup, e_len_lst, e_len_fz, e_len_ref, e_list_tup, e_list_lst, e_list_fz, e_list_ref, e_tupl_tup, e_tupl_lst, e_tupl_ref, e_newT, e_newF, e_run_nm, e_run_tp, e_runs_nil, e_runs_cons, e_tru_bl, e_tru_int, e_tru_str, e_tru_lst, e_tru_tup, e_ty_str, e_ty_lst, e_ty_ref, e_append, e_insert, e_popAt, e_pop0, e_join, e_seqI_val, e_cut_str, e_cut_tup, e_cut_lst, e_cut_fz, e_cut_ref]
          refine ⟨row, e, ?_⟩
          by_cases h38 : (row.length : Int) < 38
          · simp only [h38, decide_true, mSeq, mIfS, mAsg, mRet, mRetN, mDrop, mTest, mOp, mC, mVar, mSetI, mNext, mCB, mCons, mNil, mAndT, mOrT, mNotT, mTruT, mIf, mNeg, mOr, mAnd, mNot, mLst, mTup, mBM, mBM0, mPar, mCall, mCallK, mLstRg1, mTupRg1, mRng1, mRng2, mEnum, mZipT, mFor, mSl, mNoPart, mPart, mLc, wipeM, List.set_cons_zero, List.set_cons_succ, startM, List.map_cons, List.map_nil, List.cons_append, List.nil_append, List.length_cons, List.length_nil, List.replicate, List.getElem?_cons_zero, List.getElem?_cons_succ, Option.some.injEq, Nat.reduceSub, Nat.reduceAdd, true_and, exists_eq_left, exists_eq_left', e_ix_tup, e_ix_lst, e_ix_fz, e_ix_ref, e_lo_lst, e_lo_fz, e_lo_ref, e_so_lst, e_so_fz, e_so_tup, e_so_ref, e_hd_lst, e_hd_ref, e_add_int, e_add_str, e_add_tup, e_add_lst, e_sub_int, e_mul_int, e_mul_lst, e_mul_tup, e_mod_int, e_fdv_int, e_pow_int, e_lt_int, e_le_int, e_gt_int, e_ge_int, e_eq_int, e_ne_int, e_eq_str, e_ne_str, e_isN, e_notN, e_isN_non, e_isN_int, e_isN_tup, e_isN_str, e_isN_ref, e_isN_lst, e_abs, e_max2, e_min2, e_int_int, e_int_bl, e_str_int, e_str_str, e_str_non, e_len_str, e_len_tup, e_len_lst, e_len_fz, e_len_ref, e_list_tup, e_list_lst, e_list_fz, e_list_ref, e_tupl_tup, e_tupl_lst, e_tupl_ref, e_newT, e_newF, e_run_nm, e_run_tp, e_runs_nil, e_runs_cons, e_tru_bl, e_tru_int, e_tru_str, e_tru_lst, e_tru_tup, e_ty_str, e_ty_lst, e_ty_ref, e_append, e_insert, e_popAt, e_pop0, e_join, e_seqI_val, e_cut_str, e_cut_tup, e_cut_lst, e_cut_fz, e_cut_ref]
            have insx : b_links_15 { nx := N, rt := less q, bk := b_links_16 { nx := fun x G' => less q D.non G', rt := less q }, ct := N } [some (D.ref a), some (D.int n), some (D.int way), some (D.int deep), some (D.lst (as.map D.ref)), v5, v6, v7, some (D.ref b), some (D.int x), some (D.int y)] G' := by
              simp only [b_links_15, e_sp_draw, mSeq, mIfS, mAsg, mRet, mRetN, mDrop, mTest, mOp, mC, mVar, mSetI, mNext, mCB, mCons, mNil, mAndT, mOrT, mNotT, mTruT, mIf, mNeg, mOr, mAnd, mNot, mLst, mTup, mBM, mBM0, mPar, mCall, mCallK, mLstRg1, mTupRg1, mRng1, mRng2, mEnum, mZipT, mFor, mSl, mNoPart, mPart, mLc, wipeM, List.set_cons_zero, List.set_cons_succ, startM, List.map_cons, List.map_nil, List.cons_append, List.nil_append, List.length_cons, List.length_nil, List.replicate, List.getElem?_cons_zero, List.getElem?_cons_succ, Option.some.injEq, Nat.reduceSub, Nat.reduceAdd, true_and, exists_eq_left, exists_eq_left', e_ix_tup, e_ix_lst, e_ix_fz, e_ix_ref, e_lo_lst, e_lo_fz, e_lo_ref, e_so_lst, e_so_fz, e_so_tup, e_so_ref, e_hd_lst, e_hd_ref, e_add_int, e_add_str, e_add_tup, e_add_lst, e_sub_int, e_mul_int, e_mul_lst, e_mul_tup, e_mod_int, e_fdv_int, e_pow_int, e_lt_int, e_le_int, e_gt_int, e_ge_int, e_eq_int, e_ne_int, e_eq_str, e_ne_str, e_isN, e_notN, e_isN_non, e_isN_int, e_isN_tup, e_isN_str, e_isN_ref, e_isN_lst, e_abs, e_max2, e_min2, e_int_int, e_int_bl, e_str_int, e_str_str, e_str_non, e_len_str, e_len_tup, e_len_lst, e_len_fz, e_len_ref, e_list_tup, e_list_lst, e_list_fz, e_list_ref, e_tupl_tup, e_tupl_lst, e_tupl_ref, e_newT, e_newF, e_run_nm, e_run_tp, e_runs_nil, e_runs_cons, e_tru_bl, e_tru_int, e_tru_str, e_tru_lst, e_tru_tup, e_ty_str, e_ty_lst, e_ty_ref, e_append, e_insert, e_popAt, e_pop0, e_join, e_seqI_val, e_cut_str, e_cut_tup, e_cut_lst, e_cut_fz, e_cut_ref]
              refine ⟨⟨row, e⟩, row, e, ?_⟩
              obtain ⟨o', ea, p'⟩ := s.pen
              refine draw_at (E := noX) ea p' (by omega) (by omega) (by omega) fun k o2 k0 k1 p2 => ?_
              have nab : b ≠ a := fun z => s.na (by subst z; exact hmem)
              rw [e_insert]
              refine ⟨row, by rw [put_ne nab]; exact e, by have := sizeLine_eq; omega, k0, by omega, hN _ _ ⟨⟨_, _, _, _, _, _, rfl⟩, ?_⟩⟩
              have r38 : RowOk 38 (RefOk n) row := ⟨by omega, r.2⟩
              exact ((s.draw p2).row hmem ((RowOk.ins (L := 38) ⟨by omega, r.2⟩ (.inr ⟨y, rfl, y0, y1⟩) k.toNat)) (Nat.le_refl _)).mono (Nat.le_refl _) hM
            have noins : N [some (D.ref a), some (D.int n), some (D.int way), some (D.int deep), some (D.lst (as.map D.ref)), v5, v6, v7, some (D.ref b), some (D.int x), some (D.int y)] G' := hN _ _ ⟨⟨_, _, _, _, _, _, rfl⟩, s.mono (Nat.le_refl _) (by omega)⟩
            by_cases hxy : x = y
            · simp only [hxy, decide_true, Bool.not_true, mSeq, mIfS, mAsg, mRet, mRetN, mDrop, mTest, mOp, mC, mVar, mSetI, mNext, mCB, mCons, mNil, mAndT, mOrT, mNotT, mTruT, mIf, mNeg, mOr, mAnd, mNot, mLst, mTup, mBM, mBM0, mPar, mCall, mCallK, mLstRg1, mTupRg1, mRng1, mRng2, mEnum, mZipT, mFor, mSl, mNoPart, mPart, mLc, wipeM, List.set_cons_zero, List.set_cons_succ, startM, List.map_cons, List.map_nil, List.cons_append, List.nil_append, List.length_cons, List.length_nil, List.replicate, List.getElem?_cons_zero, List.getElem?_cons_succ, Option.some.injEq, Nat.reduceSub, Nat.reduceAdd, true_and, exists_eq_left, exists_eq_left', e_ix_tup, e_ix_lst, e_ix_fz, e_ix_ref, e_lo_lst, e_lo_fz, e_lo_ref, e_so_lst, e_so_fz, e_so_tup, e_so_ref, e_hd_lst, e_hd_ref, e_add_int, e_add_str, e_add_tup, e_add_lst, e_sub_int, e_mul_int, e_mul_lst, e_mul_tup, e_mod_int, e_fdv_int, e_pow_int, e_lt_int, e_le_int, e_gt_int, e_ge_int, e_eq_int, e_ne_int, e_eq_str, e_ne_str, e_isN, e_notN, e_isN_non, e_isN_int, e_isN_tup, e_isN_str, e_isN_ref, e_isN_lst, e_abs, e_max2, e_min2, e_int_int, e_int_bl, e_str_int, e_str_str, e_str_non, e_len_str, e_len_tup, e_len_lst, e_len_fz, e_len_ref, e_list_tup, e_list_lst, e_list_fz, e_list_ref, e_tupl_tup, e_tupl_lst, e_tupl_ref, e_newT, e_newF, e_run_nm, e_run_tp, e_runs_nil, e_runs_cons, e_tru_bl, e_tru_int, e_tru_str, e_tru_lst, e_tru_tup, e_ty_str, e_ty_lst, e_ty_ref, e_append, e_insert, e_popAt, e_pop0, e_join, e_seqI_val, e_cut_str, e_cut_tup, e_cut_lst, e_cut_fz, e_cut_ref]
              subst hxy
              by_cases hw3 : way = 3
              · simp only [hw3, decide_true]; subst hw3; exact insx
              · simp only [hw3, decide_false]; exact noins
            · simp only [hxy, decide_false, Bool.not_false]; exact insx
          · simp only [h38, decide_false, mSeq, mIfS, mAsg, mRet, mRetN, mDrop, mTest, mOp, mC, mVar, mSetI, mNext, mCB, mCons, mNil, mAndT, mOrT, mNotT, mTruT, mIf, mNeg, mOr, mAnd, mNot, mLst, mTup, mBM, mBM0, mPar, mCall, mCallK, mLstRg1, mTupRg1, mRng1, mRng2, mEnum, mZipT, mFor, mSl, mNoPart, mPart, mLc, wipeM, List.set_cons_zero, List.set_cons_succ, startM, List.map_cons, List.map_nil, List.cons_append, List.nil_append, List.length_cons, List.length_nil, List.replicate, List.getElem?_cons_zero, List.getElem?_cons_succ, Option.some.injEq, Nat.reduceSub, Nat.reduceAdd, true_and, exists_eq_left, exists_eq_left', e_ix_tup, e_ix_lst, e_ix_fz, e_ix_ref, e_lo_lst, e_lo_fz, e_lo_ref, e_so_lst, e_so_fz, e_so_tup, e_so_ref, e_hd_lst, e_hd_ref, e_add_int, e_add_str, e_add_tup, e_add_lst, e_sub_int, e_mul_int, e_mul_lst, e_mul_tup, e_mod_int, e_fdv_int, e_pow_int, e_lt_int, e_le_int, e_gt_int, e_ge_int, e_eq_int, e_ne_int, e_eq_str, e_ne_str, e_isN, e_notN, e_isN_non, e_isN_int, e_isN_tup, e_isN_str, e_isN_ref, e_isN_lst, e_abs, e_max2, e_min2, e_int_int, e_int_bl, e_str_int, e_str_str, e_str_non, e_len_str, e_len_tup, e_len_lst, e_len_fz, e_len_ref, e_list_tup, e_list_lst, e_list_fz, e_list_ref, e_tupl_tup, e_tupl_lst, e_tupl_ref, e_newT, e_newF, e_run_nm, e_run_tp, e_runs_nil, e_runs_cons, e_tru_bl, e_tru_int, e_tru_str, e_tru_lst, e_tru_tup, e_ty_str, e_ty_lst, e_ty_ref, e_append, e_insert, e_popAt, e_pop0, e_join, e_seqI_val, e_cut_str, e_cut_tup, e_cut_lst, e_cut_fz, e_cut_ref]
            exact hN _ _ ⟨⟨_, _, _, _, _, _, rfl⟩, s.mono (Nat.le_refl _) (by omega)⟩
        simp only [b_links_9, b_links_10, τL, e_sp_draw, mSeq, mIfS, mAsg, mRet, mRetN, mDrop, mTest, mOp, mC, mVar, mSetI, mNext, mCB, mCons, mNil, mAndT, mOrT, mNotT, mTruT, mIf, mNeg, mOr, mAnd, mNot, mLst, mTup, mBM, mBM0, mPar, mCall, mCallK, mLstRg1, mTupRg1, mRng1, mRng2, mEnum, mZipT, mFor, mSl, mNoPart, mPart, mLc, wipeM, List.set_cons_zero, List.set_cons_succ, startM, List.map_cons, List.map_nil, List.cons_append, List.nil_append, List.length_cons, List.length_nil, List.replicate, List.getElem?_cons_zero, List.getElem?_cons_succ, Option.some.injEq, Nat.reduceSub, Nat.reduceAdd, true_and, exists_eq_left, exists_eq_left', e_ix_tup, e_ix_lst, e_ix_fz, e_ix_ref, e_lo_lst, e_lo_fz, e_lo_ref, e_so_lst, e_so_fz, e_so_tup, e_so_ref, e_hd_lst, e_hd_ref, e_add_int, e_add_str, e_add_tup, e_add_lst, e_sub_int, e_mul_int, e_mul_lst, e_mul_tup, e_mod_int, e_fdv_int, e_pow_int, e_lt_int, e_le_int, e_gt_int, e_ge_int, e_eq_int, e_ne_int, e_eq_str, e_ne_str, e_isN, e_notN, e_isN_non, e_isN_int, e_isN_tup, e_isN_str, e_isN_ref, e_isN_lst, e_abs, e_max2, e_min2, e_int_int, e_int_bl, e_str_int, e_str_str, e_str_non, e_len_str, e_len_tup, e_len_lst, e_len_fz, e_len_ref, e_list_tup, e_list_lst, e_list_fz, e_list_ref, e_tupl_tup, e_tupl_lst, e_tupl_ref, e_newT, e_newF, e_run_nm, e_run_tp, e_runs_nil, e_runs_cons, e_tru_bl, e_tru_int, e_tru_str, e_tru_lst, e_tru_tup, e_ty_str, e_ty_lst, e_ty_ref, e_append, e_insert, e_popAt, e_pop0, e_join, e_seqI_val, e_cut_str, e_cut_tup, e_cut_lst, e_cut_fz, e_cut_ref]
        obtain ⟨o', ea, p'⟩ := s.pen
        refine draw_at (E := noX) ea p' (by omega) (by omega) (by omega) fun x o2 x0 x1 p2 => ?_
        refine draw_at (E := noX) put_same p2 (by omega) (by omega) (by omega) fun y o3 y0 y1 p3 => ?_
        have s3 := (s.draw p2).draw p3
        simp only [b_links_11, mSeq, mIfS, mAsg, mRet, mRetN, mDrop, mTest, mOp, mC, mVar, mSetI, mNext, mCB, mCons, mNil, mAndT, mOrT, mNotT, mTruT, mIf, mNeg, mOr, mAnd, mNot, mLst, mTup, mBM, mBM0, mPar, mCall, mCallK, mLstRg1, mTupRg1, mRng1, mRng2, mEnum, mZipT, mFor, mSl, mNoPart, mPart, mLc, wipeM, List.set_cons_zero, List.set_cons_succ, startM, List.map_cons, List.map_nil, List.cons_append, List.nil_append, List.length_cons, List.length_nil, List.replicate, List.getElem?_cons_zero, List.getElem?_cons_succ, Option.some.injEq, Nat.reduceSub, Nat.reduceAdd, true_and, exists_eq_left, exists_eq_left', e_ix_tup, e_ix_lst, e_ix_fz, e_ix_ref, e_lo_lst, e_lo_fz, e_lo_ref, e_so_lst, e_so_fz, e_so_tup, e_so_ref, e_hd_lst, e_hd_ref, e_add_int, e_add_str, e_add_tup, e_add_lst, e_sub_int, e_mul_int, e_mul_lst, e_mul_tup, e_mod_int, e_fdv_int, e_pow_int, e_lt_int, e_le_int, e_gt_int, e_ge_int, e_eq_int, e_ne_int, e_eq_str, e_ne_str, e_isN, e_notN, e_isN_non, e_isN_int, e_isN_tup, e_isN_str, e_isN_ref, e_isN_lst, e_abs, e_max2, e_min2, e_int_int, e_int_bl, e_str_int, e_str_str, e_str_non, e_len_str, e_len_tup, e_len_lst, e_len_fz, e_len_ref, e_list_tup, e_list_lst, e_list_fz, e_list_ref, e_tupl_tup, e_tupl_lst, e_tupl_ref, e_newT, e_newF, e_run_nm, e_run_tp, e_runs_nil, e_runs_cons, e_tru_bl, e_tru_int, e_tru_str, e_tru_lst, e_tru_tup, e_ty_str, e_ty_lst, e_ty_ref, e_append, e_insert, e_popAt, e_pop0, e_join, e_seqI_val, e_cut_str, e_cut_tup, e_cut_lst, e_cut_fz, e_cut_ref]
        by_cases hyx : y ≤ x
        · simp only [hyx, decide_true, mSeq, mIfS, mAsg, mRet, mRetN, mDrop, mTest, mOp, mC, mVar, mSetI, mNext, mCB, mCons, mNil, mAndT, mOrT, mNotT, mTruT, mIf, mNeg, mOr, mAnd, mNot, mLst, mTup, mBM, mBM0, mPar, mCall, mCallK, mLstRg1, mTupRg1, mRng1, mRng2, mEnum, mZipT, mFor, mSl, mNoPart, mPart, mLc, wipeM, List.set_cons_zero, List.set_cons_succ, startM, List.map_cons, List.map_nil, List.cons_append, List.nil_append, List.length_cons, List.length_nil, List.replicate, List.getElem?_cons_zero, List.getElem?_cons_succ, Option.some.injEq, Nat.reduceSub, Nat.reduceAdd, true_and, exists_eq_left, exists_eq_left', e_ix_tup, e_ix_lst, e_ix_fz, e_ix_ref, e_lo_lst, e_lo_fz, e_lo_ref, e_so_lst, e_so_fz, e_so_tup, e_so_ref, e_hd_lst, e_hd_ref, e_add_int, e_add_str, e_add_tup, e_add_lst, e_sub_int, e_mul_int, e_mul_lst, e_mul_tup, e_mod_int, e_fdv_int, e_pow_int, e_lt_int, e_le_int, e_gt_int, e_ge_int, e_eq_int, e_ne_int, e_eq_str, e_ne_str, e_isN, e_notN, e_isN_non, e_isN_int, e_isN_tup, e_isN_str, e_isN_ref, e_isN_lst, e_abs, e_max2, e_min2, e_int_int, e_int_bl, e_str_int, e_str_str, e_str_non, e_len_str, e_len_tup, e_len_lst, e_len_fz, e_len_ref, e_list_tup, e_list_lst, e_list_fz, e_list_ref, e_tupl_tup, e_tupl_lst, e_tupl_ref, e_newT, e_newF, e_run_nm, e_run_tp, e_runs_nil, e_runs_cons, e_tru_bl, e_tru_int, e_tru_str, e_tru_lst, e_tru_tup, e_ty_str, e_ty_lst, e_ty_ref, e_append, e_insert, e_popAt, e_pop0, e_join, e_seqI_val, e_cut_str, e_cut_tup, e_cut_lst, e_cut_fz, e_cut_ref]
          have swap : ∀ (M : Nat) (G' : Gp), M + 1 ≤ m + 301 + 4 * (i + 1) → LS G a (RefOk n) 39 M as G' → b_links_12 { nx := b_links_13 { nx := N, rt := less q, bk := b_links_16 { nx := fun x G' => less q D.non G', rt := less q }, ct := N }, rt := less q, bk := b_links_16 { nx := fun x G' => less q D.non G', rt := less q }, ct := N } [some (D.ref a), some (D.int n), some (D.int way), some (D.int deep), some (D.lst (as.map D.ref)), some (D.int (0 + (i : Nat))), v6, v7, v8, some (D.int x), some (D.int y)] G' := by
            intro M G' hM s
            simp only [b_links_12, mSeq, mIfS, mAsg, mRet, mRetN, mDrop, mTest, mOp, mC, mVar, mSetI, mNext, mCB, mCons, mNil, mAndT, mOrT, mNotT, mTruT, mIf, mNeg, mOr, mAnd, mNot, mLst, mTup, mBM, mBM0, mPar, mCall, mCallK, mLstRg1, mTupRg1, mRng1, mRng2, mEnum, mZipT, mFor, mSl, mNoPart, mPart, mLc, wipeM, List.set_cons_zero, List.set_cons_succ, startM, List.map_cons, List.map_nil, List.cons_append, List.nil_append, List.length_cons, List.length_nil, List.replicate, List.getElem?_cons_zero, List.getElem?_cons_succ, Option.some.injEq, Nat.reduceSub, Nat.reduceAdd, true_and, exists_eq_left, exists_eq_left', e_ix_tup, e_ix_lst, e_ix_fz, e_ix_ref, e_lo_lst, e_lo_fz, e_lo_ref, e_so_lst, e_so_fz, e_so_tup, e_so_ref, e_hd_lst, e_hd_ref, e_add_int, e_add_str, e_add_tup, e_add_lst, e_sub_int, e_mul_int, e_mul_lst, e_mul_tup, e_mod_int, e_fdv_int, e_pow_int, e_lt_int, e_le_int, e_gt_int, e_ge_int, e_eq_int, e_ne_int, e_eq_str, e_ne_str, e_isN, e_notN, e_isN_non, e_isN_int, e_isN_tup, e_isN_str, e_isN_ref, e_isN_lst, e_abs, e_max2, e_min2, e_int_int, e_int_bl, e_str_int, e_str_str, e_str_non, e_len_str, e_len_tup, e_len_lst, e_len_fz, e_len_ref, e_list_tup, e_list_lst, e_list_fz, e_list_ref, e_tupl_tup, e_tupl_lst, e_tupl_ref, e_newT, e_newF, e_run_nm, e_run_tp, e_runs_nil, e_runs_cons, e_tru_bl, e_tru_int, e_tru_str, e_tru_lst, e_tru_tup, e_ty_str, e_ty_lst, e_ty_ref, e_append, e_insert, e_popAt, e_pop0, e_join, e_seqI_val, e_cut_str, e_cut_tup, e_cut_lst, e_cut_fz, e_cut_ref]
            refine tail _ _ M G' _ _ _ _ ?_ ?_ ?_ ?_ hM s
            · split <;> omega
            · split <;> omega
            · split <;> split <;> split <;> omega
            · split <;> split <;> split <;> omega
          by_cases hw3 : way < 3
          · simp only [hw3, decide_true]
            exact swap _ _ (by omega) s3
          · simp only [hw3, decide_false, e_sp_draw, mSeq, mIfS, mAsg, mRet, mRetN, mDrop, mTest, mOp, mC, mVar, mSetI, mNext, mCB, mCons, mNil, mAndT, mOrT, mNotT, mTruT, mIf, mNeg, mOr, mAnd, mNot, mLst, mTup, mBM, mBM0, mPar, mCall, mCallK, mLstRg1, mTupRg1, mRng1, mRng2, mEnum, mZipT, mFor, mSl, mNoPart, mPart, mLc, wipeM, List.set_cons_zero, List.set_cons_succ, startM, List.map_cons, List.map_nil, List.cons_append, List.nil_append, List.length_cons, List.length_nil, List.replicate, List.getElem?_cons_zero, List.getElem?_cons_succ, Option.some.injEq, Nat.reduceSub, Nat.reduceAdd, true_and, exists_eq_left, exists_eq_left', e_ix_tup, e_ix_lst, e_ix_fz, e_ix_ref, e_lo_lst, e_lo_fz, e_lo_ref, e_so_lst, e_so_fz, e_so_tup, e_so_ref, e_hd_lst, e_hd_ref, e_add_int, e_add_str, e_add_tup, e_add_lst, e_sub_int, e_mul_int, e_mul_lst, e_mul_tup, e_mod_int, e_fdv_int, e_pow_int, e_lt_int, e_le_int, e_gt_int, e_ge_int, e_eq_int, e_ne_int, e_eq_str, e_ne_str, e_isN, e_notN, e_isN_non, e_isN_int, e_isN_tup, e_isN_str, e_isN_ref, e_isN_lst, e_abs, e_max2, e_min2, e_int_int, e_int_bl, e_str_int, e_str_str, e_str_non, e_len_str, e_len_tup, e_len_lst, e_len_fz, e_len_ref, e_list_tup, e_list_lst, e_list_fz, e_list_ref, e_tupl_tup, e_tupl_lst, e_tupl_ref, e_newT, e_newF, e_run_nm, e_run_tp, e_runs_nil, e_runs_cons, e_tru_bl, e_tru_int, e_tru_str, e_tru_lst, e_tru_tup, e_ty_str, e_ty_lst, e_ty_ref, e_append, e_insert, e_popAt, e_pop0, e_join, e_seqI_val, e_cut_str, e_cut_tup, e_cut_lst, e_cut_fz, e_cut_ref]
            refine draw_at (E := noX) put_same p3 (by omega) (by omega) (by omega) fun z o4 z0 z1 p4 => ?_
            have s4 := s3.draw p4
            simp only [mSeq, mIfS, mAsg, mRet, mRetN, mDrop, mTest, mOp, mC, mVar, mSetI, mNext, mCB, mCons, mNil, mAndT, mOrT, mNotT, mTruT, mIf, mNeg, mOr, mAnd, mNot, mLst, mTup, mBM, mBM0, mPar, mCall, mCallK, mLstRg1, mTupRg1, mRng1, mRng2, mEnum, mZipT, mFor, mSl, mNoPart, mPart, mLc, wipeM, List.set_cons_zero, List.set_cons_succ, startM, List.map_cons, List.map_nil, List.cons_append, List.nil_append, List.length_cons, List.length_nil, List.replicate, List.getElem?_cons_zero, List.getElem?_cons_succ, Option.some.injEq, Nat.reduceSub, Nat.reduceAdd, true_and, exists_eq_left, exists_eq_left', e_ix_tup, e_ix_lst, e_ix_fz, e_ix_ref, e_lo_lst, e_lo_fz, e_lo_ref, e_so_lst, e_so_fz, e_so_tup, e_so_ref, e_hd_lst, e_hd_ref, e_add_int, e_add_str, e_add_tup, e_add_lst, e_sub_int, e_mul_int, e_mul_lst, e_mul_tup, e_mod_int, e_fdv_int, e_pow_int, e_lt_int, e_le_int, e_gt_int, e_ge_int, e_eq_int, e_ne_int, e_eq_str, e_ne_str, e_isN, e_notN, e_isN_non, e_isN_int, e_isN_tup, e_isN_str, e_isN_ref, e_isN_lst, e_abs, e_max2, e_min2, e_int_int, e_int_bl, e_str_int, e_str_str, e_str_non, e_len_str, e_len_tup, e_len_lst, e_len_fz, e_len_ref, e_list_tup, e_list_lst, e_list_fz, e_list_ref, e_tupl_tup, e_tupl_lst, e_tupl_ref, e_newT, e_newF, e_run_nm, e_run_tp, e_runs_nil, e_runs_cons, e_tru_bl, e_tru_int, e_tru_str, e_tru_lst, e_tru_tup, e_ty_str, e_ty_lst, e_ty_ref, e_append, e_insert, e_popAt, e_pop0, e_join, e_seqI_val, e_cut_str, e_cut_tup, e_cut_lst, e_cut_fz, e_cut_ref]
            by_cases hz : 0 < z
            · simp only [hz, decide_true]
              exact swap _ _ (by omega) s4
            · simp only [hz, decide_false]
              exact tail x y _ _ _ _ _ _ x0 x1 y0 y1 (by omega) s4
        · simp only [hyx, decide_false, mSeq, mIfS, mAsg, mRet, mRetN, mDrop, mTest, mOp, mC, mVar, mSetI, mNext, mCB, mCons, mNil, mAndT, mOrT, mNotT, mTruT, mIf, mNeg, mOr, mAnd, mNot, mLst, mTup, mBM, mBM0, mPar, mCall, mCallK, mLstRg1, mTupRg1, mRng1, mRng2, mEnum, mZipT, mFor, mSl, mNoPart, mPart, mLc, wipeM, List.set_cons_zero, List.set_cons_succ, startM, List.map_cons, List.map_nil, List.cons_append, List.nil_append, List.length_cons, List.length_nil, List.replicate, List.getElem?_cons_zero, List.getElem?_cons_succ, Option.some.injEq, Nat.reduceSub, Nat.reduceAdd, true_and, exists_eq_left, exists_eq_left', e_ix_tup, e_ix_lst, e_ix_fz, e_ix_ref, e_lo_lst, e_lo_fz, e_lo_ref, e_so_lst, e_so_fz, e_so_tup, e_so_ref, e_hd_lst, e_hd_ref, e_add_int, e_add_str, e_add_tup, e_add_lst, e_sub_int, e_mul_int, e_mul_lst, e_mul_tup, e_mod_int, e_fdv_int, e_pow_int, e_lt_int, e_le_int, e_gt_int, e_ge_int, e_eq_int, e_ne_int, e_eq_str, e_ne_str, e_isN, e_notN, e_isN_non, e_isN_int, e_isN_tup, e_isN_str, e_isN_ref, e_isN_lst, e_abs, e_max2, e_min2, e_int_int, e_int_bl, e_str_int, e_str_str, e_str_non, e_len_str, e_len_tup, e_len_lst, e_len_fz, e_len_ref, e_list_tup, e_list_lst, e_list_fz, e_list_ref, e_tupl_tup, e_tupl_lst, e_tupl_ref, e_newT, e_newF, e_run_nm, e_run_tp, e_runs_nil, e_runs_cons, e_tru_bl, e_tru_int, e_tru_str, e_tru_lst, e_tru_tup, e_ty_str, e_ty_lst, e_ty_ref, e_append, e_insert, e_popAt, e_pop0, e_join, e_seqI_val, e_cut_str, e_cut_tup, e_cut_lst, e_cut_fz, e_cut_ref]
          exact tail x y _ _ _ _ _ _ x0 x1 y0 y1 (by omega) s3
      · rintro τ G' ⟨hτ, s⟩
        rw [rng_len] at s
        exact ⟨trivial, last τ G' hτ (s.mono (Nat.le_refl _) (by omega))⟩
    have hw : way = 0 ∨ way = 1 ∨ way = 2 ∨ way = 3 := by omega
    rcases hw with rfl | rfl | rfl | rfl
    · exact ⟨_, _, rfl, rfl, go 0 (by omega) (by omega)⟩
    · exact ⟨_, _, rfl, rfl, go c (by omega) (by omega)⟩
    · exact ⟨_, _, rfl, rfl, go n (by omega) (by omega)⟩
    · exact ⟨_, _, rfl, rfl, go (2 * n) (by omega) (by omega)⟩
  -- the first loop
  simp only [b_links_4, mSeq, mIfS, mAsg, mRet, mRetN, mDrop, mTest, mOp, mC, mVar, mSetI, mNext, mCB, mCons, mNil, mAndT, mOrT, mNotT, mTruT, mIf, mNeg, mOr, mAnd, mNot, mLst, mTup, mBM, mBM0, mPar, mCall, mCallK, mLstRg1, mTupRg1, mRng1, mRng2, mEnum, mZipT, mFor, mSl, mNoPart, mPart, mLc, wipeM, List.set_cons_zero, List.set_cons_succ, startM, List.map_cons, List.map_nil, List.cons_append, List.nil_append, List.length_cons, List.length_nil, List.replicate, List.getElem?_cons_zero, List.getElem?_cons_succ, Option.some.injEq, Nat.reduceSub, Nat.reduceAdd, true_and, exists_eq_left, exists_eq_left', e_ix_tup, e_ix_lst, e_ix_fz, e_ix_ref, e_lo_lst, e_lo_fz, e_lo_ref, e_so_lst, e_so_fz, e_so_tup, e_so_ref, e_hd_lst, e_hd_ref, e_add_int, e_add_str, e_add_tup, e_add_lst, e_sub_int, e_mul_int, e_mul_lst, e_mul_tup, e_mod_int, e_fdv_int, e_pow_int, e_lt_int, e_le_int, e_gt_int, e_ge_int, e_eq_int, e_ne_int, e_eq_str, e_ne_str, e_isN, e_notN, e_isN_non, e_isN_int, e_isN_tup, e_isN_str, e_isN_ref, e_isN_lst, e_abs, e_max2, e_min2, e_int_int, e_int_bl, e_str_int, e_str_str, e_str_non, e_len_str, e_len_tup, e_len_lst, e_len_fz, e_len_ref, e_list_tup, e_list_lst, e_list_fz, e_list_ref, e_tupl_tup, e_tupl_lst, e_tupl_ref, e_newT, e_newF, e_run_nm, e_run_tp, e_runs_nil, e_runs_cons, e_tru_bl, e_tru_int, e_tru_str, e_tru_lst, e_tru_tup, e_ty_str, e_ty_lst, e_ty_ref, e_append, e_insert, e_popAt, e_pop0, e_join, e_seqI_val, e_cut_str, e_cut_tup, e_cut_lst, e_cut_fz, e_cut_ref]
  refine ⟨⟨by decide, by decide, by omega, by omega⟩, loop_ind (fun i τ G' => (∃ v5 v6 v7 v8 v9 v10, τ = τL a n way deep as v5 v6 v7 v8 v9 v10) ∧ LS G a (RefOk n) i (m + 2 + 3 * i) as G') ?_ ?_ ⟨⟨_, _, _, _, _, _, rfl⟩, s⟩⟩
  · rintro i w τ G' N hw ⟨⟨v5, v6, v7, v8, v9, v10, rfl⟩, s⟩ hN
    obtain ⟨hi, rfl⟩ := rng_at hw
    have hi' : i + 1 < n := by omega
    refine ⟨trivial, ?_⟩
    simp only [b_links_5, τL, e_sp_draw, mSeq, mIfS, mAsg, mRet, mRetN, mDrop, mTest, mOp, mC, mVar, mSetI, mNext, mCB, mCons, mNil, mAndT, mOrT, mNotT, mTruT, mIf, mNeg, mOr, mAnd, mNot, mLst, mTup, mBM, mBM0, mPar, mCall, mCallK, mLstRg1, mTupRg1, mRng1, mRng2, mEnum, mZipT, mFor, mSl, mNoPart, mPart, mLc, wipeM, List.set_cons_zero, List.set_cons_succ, startM, List.map_cons, List.map_nil, List.cons_append, List.nil_append, List.length_cons, List.length_nil, List.replicate, List.getElem?_cons_zero, List.getElem?_cons_succ, Option.some.injEq, Nat.reduceSub, Nat.reduceAdd, true_and, exists_eq_left, exists_eq_left', e_ix_tup, e_ix_lst, e_ix_fz, e_ix_ref, e_lo_lst, e_lo_fz, e_lo_ref, e_so_lst, e_so_fz, e_so_tup, e_so_ref, e_hd_lst, e_hd_ref, e_add_int, e_add_str, e_add_tup, e_add_lst, e_sub_int, e_mul_int, e_mul_lst, e_mul_tup, e_mod_int, e_fdv_int, e_pow_int, e_lt_int, e_le_int, e_gt_int, e_ge_int, e_eq_int, e_ne_int, e_eq_str, e_ne_str, e_isN, e_notN, e_isN_non, e_isN_int, e_isN_tup, e_isN_str, e_isN_ref, e_isN_lst, e_abs, e_max2, e_min2, e_int_int, e_int_bl, e_str_int, e_str_str, e_str_non, e_len_str, e_len_tup, e_len_lst, e_len_fz, e_len_ref, e_list_tup, e_list_lst, e_list_fz, e_list_ref, e_tupl_tup, e_tupl_lst, e_tupl_ref, e_newT, e_newF, e_run_nm, e_run_tp, e_runs_nil, e_runs_cons, e_tru_bl, e_tru_int, e_tru_str, e_tru_lst, e_tru_tup, e_ty_str, e_ty_lst, e_ty_ref, e_append, e_insert, e_popAt, e_pop0, e_join, e_seqI_val, e_cut_str, e_cut_tup, e_cut_lst, e_cut_fz, e_cut_ref]
    obtain ⟨o', ea, p'⟩ := s.pen
    refine draw_at (E := noX) ea p' (by omega) (by omega) (by omega) fun x o2 x0 x1 p2 => ?_
    refine draw_at (E := noX) put_same p2 (by omega) (by omega) (by omega) fun y o3 y0 y1 p3 => ?_
    have s3 := (s.draw p2).draw p3
    simp only [mSeq, mIfS, mAsg, mRet, mRetN, mDrop, mTest, mOp, mC, mVar, mSetI, mNext, mCB, mCons, mNil, mAndT, mOrT, mNotT, mTruT, mIf, mNeg, mOr, mAnd, mNot, mLst, mTup, mBM, mBM0, mPar, mCall, mCallK, mLstRg1, mTupRg1, mRng1, mRng2, mEnum, mZipT, mFor, mSl, mNoPart, mPart, mLc, wipeM, List.set_cons_zero, List.set_cons_succ, startM, List.map_cons, List.map_nil, List.cons_append, List.nil_append, List.length_cons, List.length_nil, List.replicate, List.getElem?_cons_zero, List.getElem?_cons_succ, Option.some.injEq, Nat.reduceSub, Nat.reduceAdd, true_and, exists_eq_left, exists_eq_left', e_ix_tup, e_ix_lst, e_ix_fz, e_ix_ref, e_lo_lst, e_lo_fz, e_lo_ref, e_so_lst, e_so_fz, e_so_tup, e_so_ref, e_hd_lst, e_hd_ref, e_add_int, e_add_str, e_add_tup, e_add_lst, e_sub_int, e_mul_int, e_mul_lst, e_mul_tup, e_mod_int, e_fdv_int, e_pow_int, e_lt_int, e_le_int, e_gt_int, e_ge_int, e_eq_int, e_ne_int, e_eq_str, e_ne_str, e_isN, e_notN, e_isN_non, e_isN_int, e_isN_tup, e_isN_str, e_isN_ref, e_isN_lst, e_abs, e_max2, e_min2, e_int_int, e_int_bl, e_str_int, e_str_str, e_str_non, e_len_str, e_len_tup, e_len_lst, e_len_fz, e_len_ref, e_list_tup, e_list_lst, e_list_fz, e_list_ref, e_tupl_tup, e_tupl_lst, e_tupl_ref, e_newT, e_newF, e_run_nm, e_run_tp, e_runs_nil, e_runs_cons, e_tru_bl, e_tru_int, e_tru_str, e_tru_lst, e_tru_tup, e_ty_str, e_ty_lst, e_ty_ref, e_append, e_insert, e_popAt, e_pop0, e_join, e_seqI_val, e_cut_str, e_cut_tup, e_cut_lst, e_cut_fz, e_cut_ref]
    refine ⟨by decide, ?_⟩
    have go : ∀ t : Int, 0 ≤ t → t < n → b_links_6 { nx := N, rt := less q, bk := b_links_8 { nx := fun x G' => less q D.non G', rt := less q }, ct := N } [some (D.ref a), some (D.int n), some (D.int way), some (D.int deep), some (D.lst (as.map D.ref)), v5, some (D.int (1 + (i : Nat))), some (D.int t), v8, v9, v10] (put (put G' a o2) a o3) := by
      intro t t0 t1
      simp only [b_links_6, mSeq, mIfS, mAsg, mRet, mRetN, mDrop, mTest, mOp, mC, mVar, mSetI, mNext, mCB, mCons, mNil, mAndT, mOrT, mNotT, mTruT, mIf, mNeg, mOr, mAnd, mNot, mLst, mTup, mBM, mBM0, mPar, mCall, mCallK, mLstRg1, mTupRg1, mRng1, mRng2, mEnum, mZipT, mFor, mSl, mNoPart, mPart, mLc, wipeM, List.set_cons_zero, List.set_cons_succ, startM, List.map_cons, List.map_nil, List.cons_append, List.nil_append, List.length_cons, List.length_nil, List.replicate, List.getElem?_cons_zero, List.getElem?_cons_succ, Option.some.injEq, Nat.reduceSub, Nat.reduceAdd, true_and, exists_eq_left, exists_eq_left', e_ix_tup, e_ix_lst, e_ix_fz, e_ix_ref, e_lo_lst, e_lo_fz, e_lo_ref, e_so_lst, e_so_fz, e_so_tup, e_so_ref, e_hd_lst, e_hd_ref, e_add_int, e_add_str, e_add_tup, e_add_lst, e_sub_int, e_mul_int, e_mul_lst, e_mul_tup, e_mod_int, e_fdv_int, e_pow_int, e_lt_int, e_le_int, e_gt_int, e_ge_int, e_eq_int, e_ne_int, e_eq_str, e_ne_str, e_isN, e_notN, e_isN_non, e_isN_int, e_isN_tup, e_isN_str, e_isN_ref, e_isN_lst, e_abs, e_max2, e_min2, e_int_int, e_int_bl, e_str_int, e_str_str, e_str_non, e_len_str, e_len_tup, e_len_lst, e_len_fz, e_len_ref, e_list_tup, e_list_lst, e_list_fz, e_list_ref, e_tupl_tup, e_tupl_lst, e_tupl_ref, e_newT, e_newF, e_run_nm, e_run_tp, e_runs_nil, e_runs_cons, e_tru_bl, e_tru_int, e_tru_str, e_tru_lst, e_tru_tup, e_ty_str, e_ty_lst, e_ty_ref, e_append, e_insert, e_popAt, e_pop0, e_join, e_seqI_val, e_cut_str, e_cut_tup, e_cut_lst, e_cut_fz, e_cut_ref]
      obtain ⟨b, hb, hmem⟩ := at_refs (as := as) t0 (by omega)
      refine ⟨_, _, rfl, hb, ?_⟩
      simp only [b_links_7, e_sp_draw, mSeq, mIfS, mAsg, mRet, mRetN, mDrop, mTest, mOp, mC, mVar, mSetI, mNext, mCB, mCons, mNil, mAndT, mOrT, mNotT, mTruT, mIf, mNeg, mOr, mAnd, mNot, mLst, mTup, mBM, mBM0, mPar, mCall, mCallK, mLstRg1, mTupRg1, mRng1, mRng2, mEnum, mZipT, mFor, mSl, mNoPart, mPart, mLc, wipeM, List.set_cons_zero, List.set_cons_succ, startM, List.map_cons, List.map_nil, List.cons_append, List.nil_append, List.length_cons, List.length_nil, List.replicate, List.getElem?_cons_zero, List.getElem?_cons_succ, Option.some.injEq, Nat.reduceSub, Nat.reduceAdd, true_and, exists_eq_left, exists_eq_left', e_ix_tup, e_ix_lst, e_ix_fz, e_ix_ref, e_lo_lst, e_lo_fz, e_lo_ref, e_so_lst, e_so_fz, e_so_tup, e_so_ref, e_hd_lst, e_hd_ref, e_add_int, e_add_str, e_add_tup, e_add_lst, e_sub_int, e_mul_int, e_mul_lst, e_mul_tup, e_mod_int, e_fdv_int, e_pow_int, e_lt_int, e_le_int, e_gt_int, e_ge_int, e_eq_int, e_ne_int, e_eq_str, e_ne_str, e_isN, e_notN, e_isN_non, e_isN_int, e_isN_tup, e_isN_str, e_isN_ref, e_isN_lst, e_abs, e_max2, e_min2, e_int_int, e_int_bl, e_str_int, e_str_str, e_str_non, e_len_str, e_len_tup, e_len_lst, e_len_fz, e_len_ref, e_list_tup, e_list_lst, e_list_fz, e_list_ref, e_tupl_tup, e_tupl_lst, e_tupl_ref, e_newT, e_newF, e_run_nm, e_run_tp, e_runs_nil, e_runs_cons, e_tru_bl, e_tru_int, e_tru_str, e_tru_lst, e_tru_tup, e_ty_str, e_ty_lst, e_ty_ref, e_append, e_insert, e_popAt, e_pop0, e_join, e_seqI_val, e_cut_str, e_cut_tup, e_cut_lst, e_cut_fz, e_cut_ref]
      exact s3.ins hmem (.inr ⟨_, rfl, by omega, by omega⟩) (by omega) (by omega) (E := noX) fun G3 s4 => hN _ _ ⟨⟨_, _, _, _, _, _, rfl⟩, s4.mono (by omega) (by omega)⟩
    have hd : deep = 0 ∨ deep = 1 ∨ deep = 2 := by omega
    rcases hd with rfl | rfl | rfl
    · exact ⟨_, _, rfl, rfl, go _ (by omega) (by omega)⟩
    · exact ⟨_, _, rfl, rfl, go _ (by omega) (by omega)⟩
    · exact ⟨_, _, rfl, rfl, go _ (by split <;> omega) (by split <;> omega)⟩
  · rintro τ G' ⟨hτ, s⟩
    rw [rng_len] at s
    exact ⟨trivial, mid τ G' hτ (s.mono (by omega) (by omega))⟩
end Q81

set_option maxRecDepth 100000
namespace Q81
open PySem PySem.Spec L2 ML
open PyProof.Rows hiding St
structure OL (G : Gp) (a p : Addr) (as : List Addr) (t : Nat) (S : D → Prop) (G' : Gp) : Prop where
  na : p ≠ a
  nm : p ∉ as
  g : G p = none
  s : ∃ sl, G' p = some (.lst sl) ∧ sl.length = t ∧ ∀ x ∈ sl, S x
section
variable {G G' : Gp} {a b p : Addr} {P S : D → Prop} {L m m' t : Nat} {as : List Addr} {o : MO}
theorem OL.keep (h : OL G a p as t S G') (hb : b ≠ p) : OL G a p as t S (put G' b o) := ⟨h.na, h.nm, h.g, let ⟨sl, e, r⟩ := h.s; ⟨sl, by rw [put_ne hb.symm]; exact e, r⟩⟩
theorem OL.set (h : OL G a p as t S G') {sl : List D} (e : G' p = some (.lst sl)) {x : D} (hx : S x) (j : Nat) : OL G a p as t S (put G' p (.lst (sl.set j x))) := by
  obtain ⟨sl', e', l, al⟩ := h.s
  rw [e] at e'
  cases e'
  refine ⟨h.na, h.nm, h.g, _, put_same, by rw [List.length_set]; exact l, fun y hy => ?_⟩
  rcases List.mem_or_eq_of_mem_set hy with hy | rfl
  · exact al y hy
  · exact hx
theorem LS.keep (s : LS G a P L m as G') (hp : p ≠ a) (hm : p ∉ as) (hg : G p = none) : LS G a P L m as (put G' p o) := by
  refine ⟨s.na, s.new, fun b hb => ?_, ?_, fun b u hb e => ?_⟩
  · obtain ⟨row, e, r⟩ := s.rows b hb
    exact ⟨row, by rw [put_ne (fun z => hm (by subst z; exact hb))]; exact e, r⟩
  · obtain ⟨o', e, p'⟩ := s.pen; exact ⟨o', by rw [put_ne hp.symm]; exact e, p'⟩
  · have : b ≠ p := fun z => by subst z; rw [hg] at e; cases e
    rw [put_ne this]; exact s.old b u hb e
theorem LS.fresh (s : LS G a P L m as G') (hp : G' p = none) : p ≠ a ∧ p ∉ as ∧ G p = none := by
  obtain ⟨o', e, _⟩ := s.pen
  have na : p ≠ a := fun z => by subst z; rw [hp] at e; cases e
  refine ⟨na, fun z => ?_, ?_⟩
  · obtain ⟨row, e, _⟩ := s.rows p z; rw [hp] at e; cases e
  · cases e : G p with
    | none => rfl
    | some u => rw [s.old p u na e] at hp; cases hp
theorem LS.fin (s : LS G a P L m as G') {o' : MO} (e : G' a = some o') : Sub (put G a o') G' := sub_of e s.old
end
theorem at_nums {is : List Int} {n : Nat} (h : NumsIn n is) {i : Int} (h0 : 0 ≤ i) (h1 : i < is.length) : ∃ j : Int, atI (is.map D.int) i = some (.int j) ∧ 0 ≤ j ∧ j < (n : Int) := by
  obtain ⟨w, hw, hm, _⟩ := at_in (xs := is.map D.int) h0 (by rw [List.length_map]; exact h1)
  obtain ⟨j, hj, rfl⟩ := List.mem_map.mp hm
  exact ⟨j, hw, h j hj⟩
theorem rep_all {d : D} {k : Nat} : (List.replicate k [d]).flatten.length = k ∧ ∀ x ∈ (List.replicate k [d]).flatten, x = d := by
  induction k with
  | zero => exact ⟨rfl, fun _ h => nomatch h⟩
  | succ k ih =>
    rw [List.replicate_succ, List.flatten_cons]
    refine ⟨by rw [List.length_append, ih.1]; simp only [List.length_cons, List.length_nil]; omega, fun x hx => ?_⟩
    rcases List.mem_append.mp hx with hx | hx
    · exact List.mem_singleton.mp hx
    · exact ih.2 x hx
/-- what a reference becomes -/
def reName (is : List Int) (x : D) : D := match x with
  | .int i => (atI (is.map D.int) i).getD .non
  | _ => .non
theorem reName_int {is : List Int} {j : Int} {z : D} (h : atI (is.map D.int) j = some z) : reName is (.int j) = z := by
  show (atI (is.map D.int) j).getD .non = z
  rw [h]; rfl
theorem law_heap (x0 x1 : D) (G : Gp) (q : MK) (h : p_heap x0 x1 G q) : b_heap { nx := fun _ G' => less q .non G', rt := less q } (startM ["_law_pen_here", "_law_most", "_law_size_here", "_law_rows", "_law_spare", "_law_names", "_law_slots", "_law_outside", "_law_v", "_law_held"] [x0, x1]) G := by
  obtain ⟨a, n, m, o, rfl, rfl, hn, hn2, h0, hp, hm, kq⟩ := h
  simp only [b_heap, e_sp_size, mSeq, mIfS, mAsg, mRet, mRetN, mDrop, mTest, mOp, mC, mVar, mSetI, mNext, mCB, mCons, mNil, mAndT, mOrT, mNotT, mTruT, mIf, mNeg, mOr, mAnd, mNot, mLst, mTup, mBM, mBM0, mPar, mCall, mCallK, mLstRg1, mTupRg1, mRng1, mRng2, mEnum, mZipT, mFor, mSl, mNoPart, mPart, mLc, wipeM, List.set_cons_zero, List.set_cons_succ, startM, List.map_cons, List.map_nil, List.cons_append, List.nil_append, List.length_cons, List.length_nil, List.replicate, List.getElem?_cons_zero, List.getElem?_cons_succ, Option.some.injEq, Nat.reduceSub, Nat.reduceAdd, true_and, exists_eq_left, exists_eq_left', e_ix_tup, e_ix_lst, e_ix_fz, e_ix_ref, e_lo_lst, e_lo_fz, e_lo_ref, e_so_lst, e_so_fz, e_so_tup, e_so_ref, e_hd_lst, e_hd_ref, e_add_int, e_add_str, e_add_tup, e_add_lst, e_sub_int, e_mul_int, e_mul_lst, e_mul_tup, e_mod_int, e_fdv_int, e_pow_int, e_lt_int, e_le_int, e_gt_int, e_ge_int, e_eq_int, e_ne_int, e_eq_str, e_ne_str, e_isN, e_notN, e_isN_non, e_isN_int, e_isN_tup, e_isN_str, e_isN_ref, e_isN_lst, e_abs, e_max2, e_min2, e_int_int, e_int_bl, e_str_int, e_str_str, e_str_non, e_len_str, e_len_tup, e_len_lst, e_len_fz, e_len_ref, e_list_tup, e_list_lst, e_list_fz, e_list_ref, e_tupl_tup, e_tupl_lst, e_tupl_ref, e_newT, e_newF, e_run_nm, e_run_tp, e_runs_nil, e_runs_cons, e_tru_bl, e_tru_int, e_tru_str, e_tru_lst, e_tru_tup, e_ty_str, e_ty_lst, e_ty_ref, e_append, e_insert, e_popAt, e_pop0, e_join, e_seqI_val, e_cut_str, e_cut_tup, e_cut_lst, e_cut_fz, e_cut_ref]
  refine ⟨a, n, m, o, rfl, rfl, hn, hn2, h0, hp, by omega, fun r o1 r1 r2 p1 => ?_⟩
  simp only [b_heap_2, e_sp_links, mSeq, mIfS, mAsg, mRet, mRetN, mDrop, mTest, mOp, mC, mVar, mSetI, mNext, mCB, mCons, mNil, mAndT, mOrT, mNotT, mTruT, mIf, mNeg, mOr, mAnd, mNot, mLst, mTup, mBM, mBM0, mPar, mCall, mCallK, mLstRg1, mTupRg1, mRng1, mRng2, mEnum, mZipT, mFor, mSl, mNoPart, mPart, mLc, wipeM, List.set_cons_zero, List.set_cons_succ, startM, List.map_cons, List.map_nil, List.cons_append, List.nil_append, List.length_cons, List.length_nil, List.replicate, List.getElem?_cons_zero, List.getElem?_cons_succ, Option.some.injEq, Nat.reduceSub, Nat.reduceAdd, true_and, exists_eq_left, exists_eq_left', e_ix_tup, e_ix_lst, e_ix_fz, e_ix_ref, e_lo_lst, e_lo_fz, e_lo_ref, e_so_lst, e_so_fz, e_so_tup, e_so_ref, e_hd_lst, e_hd_ref, e_add_int, e_add_str, e_add_tup, e_add_lst, e_sub_int, e_mul_int, e_mul_lst, e_mul_tup, e_mod_int, e_fdv_int, e_pow_int, e_lt_int, e_le_int, e_gt_int, e_ge_int, e_eq_int, e_ne_int, e_eq_str, e_ne_str, e_isN, e_notN, e_isN_non, e_isN_int, e_isN_tup, e_isN_str, e_isN_ref, e_isN_lst, e_abs, e_max2, e_min2, e_int_int, e_int_bl, e_str_int, e_str_str, e_str_non, e_len_str, e_len_tup, e_len_lst, e_len_fz, e_len_ref, e_list_tup, e_list_lst, e_list_fz, e_list_ref, e_tupl_tup, e_tupl_lst, e_tupl_ref, e_newT, e_newF, e_run_nm, e_run_tp, e_runs_nil, e_runs_cons, e_tru_bl, e_tru_int, e_tru_str, e_tru_lst, e_tru_tup, e_ty_str, e_ty_lst, e_ty_ref, e_append, e_insert, e_popAt, e_pop0, e_join, e_seqI_val, e_cut_str, e_cut_tup, e_cut_lst, e_cut_fz, e_cut_ref]
  refine ⟨a, r, m + 4, o1, rfl, rfl, r1, by omega, put_same, p1, by omega, fun as G1 hl hna hnew hrows hpen hold => ?_⟩
  have s : LS G a (RefOk r) 90 (m + 4 + 1000) as G1 := by
    refine ⟨hna, fun b hb => ?_, hrows, hpen, fun b u hb e => hold b u hb (by rw [put_ne hb]; exact e)⟩
    have := hnew b hb
    rwa [put_ne (fun z => hna (by subst z; exact hb))] at this
  clear hrows hpen hold hnew
  have rest : ∀ (t : Int) (G2 : Gp), 0 ≤ t → r + t ≤ 40 → LS G a (RefOk r) 90 (m + 1010) as G2 → b_heap_4 { nx := fun x G' => less q D.non G', rt := less q } [some (.ref a), some (.int n), some (.int r), some (.lst (as.map D.ref)), some (.int t), none, none, none, none, none] G2 := by
    intro t G2 t0 t1 s
    obtain ⟨k, hk⟩ : ∃ k : Nat, (k : Int) = r + t := ⟨(r + t).toNat, by omega⟩
    simp only [b_heap_4, e_sp_order, mSeq, mIfS, mAsg, mRet, mRetN, mDrop, mTest, mOp, mC, mVar, mSetI, mNext, mCB, mCons, mNil, mAndT, mOrT, mNotT, mTruT, mIf, mNeg, mOr, mAnd, mNot, mLst, mTup, mBM, mBM0, mPar, mCall, mCallK, mLstRg1, mTupRg1, mRng1, mRng2, mEnum, mZipT, mFor, mSl, mNoPart, mPart, mLc, wipeM, List.set_cons_zero, List.set_cons_succ, startM, List.map_cons, List.map_nil, List.cons_append, List.nil_append, List.length_cons, List.length_nil, List.replicate, List.getElem?_cons_zero, List.getElem?_cons_succ, Option.some.injEq, Nat.reduceSub, Nat.reduceAdd, true_and, exists_eq_left, exists_eq_left', e_ix_tup, e_ix_lst, e_ix_fz, e_ix_ref, e_lo_lst, e_lo_fz, e_lo_ref, e_so_lst, e_so_fz, e_so_tup, e_so_ref, e_hd_lst, e_hd_ref, e_add_int, e_add_str, e_add_tup, e_add_lst, e_sub_int, e_mul_int, e_mul_lst, e_mul_tup, e_mod_int, e_fdv_int, e_pow_int, e_lt_int, e_le_int, e_gt_int, e_ge_int, e_eq_int, e_ne_int, e_eq_str, e_ne_str, e_isN, e_notN, e_isN_non, e_isN_int, e_isN_tup, e_isN_str, e_isN_ref, e_isN_lst, e_abs, e_max2, e_min2, e_int_int, e_int_bl, e_str_int, e_str_str, e_str_non, e_len_str, e_len_tup, e_len_lst, e_len_fz, e_len_ref, e_list_tup, e_list_lst, e_list_fz, e_list_ref, e_tupl_tup, e_tupl_lst, e_tupl_ref, e_newT, e_newF, e_run_nm, e_run_tp, e_runs_nil, e_runs_cons, e_tru_bl, e_tru_int, e_tru_str, e_tru_lst, e_tru_tup, e_ty_str, e_ty_lst, e_ty_ref, e_append, e_insert, e_popAt, e_pop0, e_join, e_seqI_val, e_cut_str, e_cut_tup, e_cut_lst, e_cut_fz, e_cut_ref]
    obtain ⟨o', ea, p'⟩ := s.pen
    refine ⟨a, k, _, o', rfl, by rw [hk], by omega, ea, p', by omega, fun is o3 il iin p3 => ?_⟩
    have s2 := s.draw p3
    simp only [b_heap_5, b_heap_6, mSeq, mIfS, mAsg, mRet, mRetN, mDrop, mTest, mOp, mC, mVar, mSetI, mNext, mCB, mCons, mNil, mAndT, mOrT, mNotT, mTruT, mIf, mNeg, mOr, mAnd, mNot, mLst, mTup, mBM, mBM0, mPar, mCall, mCallK, mLstRg1, mTupRg1, mRng1, mRng2, mEnum, mZipT, mFor, mSl, mNoPart, mPart, mLc, wipeM, List.set_cons_zero, List.set_cons_succ, startM, List.map_cons, List.map_nil, List.cons_append, List.nil_append, List.length_cons, List.length_nil, List.replicate, List.getElem?_cons_zero, List.getElem?_cons_succ, Option.some.injEq, Nat.reduceSub, Nat.reduceAdd, true_and, exists_eq_left, exists_eq_left', e_ix_tup, e_ix_lst, e_ix_fz, e_ix_ref, e_lo_lst, e_lo_fz, e_lo_ref, e_so_lst, e_so_fz, e_so_tup, e_so_ref, e_hd_lst, e_hd_ref, e_add_int, e_add_str, e_add_tup, e_add_lst, e_sub_int, e_mul_int, e_mul_lst, e_mul_tup, e_mod_int, e_fdv_int, e_pow_int, e_lt_int, e_le_int, e_gt_int, e_ge_int, e_eq_int, e_ne_int, e_eq_str, e_ne_str, e_isN, e_notN, e_isN_non, e_isN_int, e_isN_tup, e_isN_str, e_isN_ref, e_isN_lst, e_abs, e_max2, e_min2, e_int_int, e_int_bl, e_str_int, e_str_str, e_str_non, e_len_str, e_len_tup, e_len_lst, e_len_fz, e_len_ref, e_list_tup, e_list_lst, e_list_fz, e_list_ref, e_tupl_tup, e_tupl_lst, e_tupl_ref, e_newT, e_newF, e_run_nm, e_run_tp, e_runs_nil, e_runs_cons, e_tru_bl, e_tru_int, e_tru_str, e_tru_lst, e_tru_tup, e_ty_str, e_ty_lst, e_ty_ref, e_append, e_insert, e_popAt, e_pop0, e_join, e_seqI_val, e_cut_str, e_cut_tup, e_cut_lst, e_cut_fz, e_cut_ref]
    rw [← hk]
    have e1 : (1 : Nat) * ((k : Int)).toNat = k := by omega
    refine ⟨by decide, ⟨by omega, by omega, by have := sizeLine_eq; omega⟩, fun q1 hq1 => ?_⟩
    obtain ⟨f1, f2, f3⟩ := s2.fresh hq1
    have s3 : LS G a (RefOk r) 90 (m + 1010 + k) as (put (put G2 a o3) q1 (.lst (List.replicate ((k : Int)).toNat [D.non]).flatten)) := s2.keep f1 f2 f3
    have S1 : OL G a q1 as k SlotOk (put (put G2 a o3) q1 (.lst (List.replicate ((k : Int)).toNat [D.non]).flatten)) := ⟨f1, f2, f3, _, put_same, by rw [(rep_all).1]; omega, fun x hx => .inl ((rep_all).2 x hx)⟩
    refine ⟨by decide, ⟨by omega, by omega, by have := sizeLine_eq; omega⟩, fun q2 hq2 => ?_⟩
    have n12 : q1 ≠ q2 := fun z => by subst z; rw [put_same] at hq2; cases hq2
    obtain ⟨g1, g2, g3⟩ := s3.fresh hq2
    have s4 : LS G a (RefOk r) 90 (m + 1010 + k) as (put (put (put G2 a o3) q1 (.lst (List.replicate ((k : Int)).toNat [D.non]).flatten)) q2 (.lst (List.replicate ((k : Int)).toNat [D.int 0]).flatten)) := s3.keep g1 g2 g3
    have S2 : OL G a q2 as k OutOk (put (put (put G2 a o3) q1 (.lst (List.replicate ((k : Int)).toNat [D.non]).flatten)) q2 (.lst (List.replicate ((k : Int)).toNat [D.int 0]).flatten)) := ⟨g1, g2, g3, _, put_same, by rw [(rep_all).1]; omega, fun x hx => ⟨0, (rep_all).2 x hx, by omega, by omega⟩⟩
    have S1' := S1.keep (o := .lst (List.replicate ((k : Int)).toNat [D.int 0]).flatten) n12.symm
    revert s4 S2 S1'
    generalize put (put (put G2 a o3) q1 (.lst (List.replicate ((k : Int)).toNat [D.non]).flatten)) q2 (.lst (List.replicate ((k : Int)).toNat [D.int 0]).flatten) = G4
    intro s4 S2 S1'
    simp only [b_heap_7, mSeq, mIfS, mAsg, mRet, mRetN, mDrop, mTest, mOp, mC, mVar, mSetI, mNext, mCB, mCons, mNil, mAndT, mOrT, mNotT, mTruT, mIf, mNeg, mOr, mAnd, mNot, mLst, mTup, mBM, mBM0, mPar, mCall, mCallK, mLstRg1, mTupRg1, mRng1, mRng2, mEnum, mZipT, mFor, mSl, mNoPart, mPart, mLc, wipeM, List.set_cons_zero, List.set_cons_succ, startM, List.map_cons, List.map_nil, List.cons_append, List.nil_append, List.length_cons, List.length_nil, List.replicate, List.getElem?_cons_zero, List.getElem?_cons_succ, Option.some.injEq, Nat.reduceSub, Nat.reduceAdd, true_and, exists_eq_left, exists_eq_left', e_ix_tup, e_ix_lst, e_ix_fz, e_ix_ref, e_lo_lst, e_lo_fz, e_lo_ref, e_so_lst, e_so_fz, e_so_tup, e_so_ref, e_hd_lst, e_hd_ref, e_add_int, e_add_str, e_add_tup, e_add_lst, e_sub_int, e_mul_int, e_mul_lst, e_mul_tup, e_mod_int, e_fdv_int, e_pow_int, e_lt_int, e_le_int, e_gt_int, e_ge_int, e_eq_int, e_ne_int, e_eq_str, e_ne_str, e_isN, e_notN, e_isN_non, e_isN_int, e_isN_tup, e_isN_str, e_isN_ref, e_isN_lst, e_abs, e_max2, e_min2, e_int_int, e_int_bl, e_str_int, e_str_str, e_str_non, e_len_str, e_len_tup, e_len_lst, e_len_fz, e_len_ref, e_list_tup, e_list_lst, e_list_fz, e_list_ref, e_tupl_tup, e_tupl_lst, e_tupl_ref, e_newT, e_newF, e_run_nm, e_run_tp, e_runs_nil, e_runs_cons, e_tru_bl, e_tru_int, e_tru_str, e_tru_lst, e_tru_tup, e_ty_str, e_ty_lst, e_ty_ref, e_append, e_insert, e_popAt, e_pop0, e_join, e_seqI_val, e_cut_str, e_cut_tup, e_cut_lst, e_cut_fz, e_cut_ref]
    refine ⟨⟨by omega, by omega⟩, loop_ind (fun i τ G' => (∃ v8 v9, τ = [some (.ref a), some (.int n), some (.int r), some (.lst (as.map D.ref)), some (.int t), some (.lst (is.map D.int)), some (.ref q1), some (.ref q2), v8, v9]) ∧ LS G a (RefOk r) 90 (m + 1100 + 2 * i) as G' ∧ OL G a q1 as k SlotOk G' ∧ OL G a q2 as k OutOk G') ?_ ?_ ⟨⟨_, _, rfl⟩, s4.mono (Nat.le_refl _) (by omega), S1', S2⟩⟩
    · rintro i w τ G' N hw ⟨⟨v8, v9, rfl⟩, s, S1, S2⟩ hN
      obtain ⟨hi, rfl⟩ := rng_at hw
      have hi' : i < r := by simpa using hi
      refine ⟨trivial, ?_⟩
      simp only [b_heap_8, mSeq, mIfS, mAsg, mRet, mRetN, mDrop, mTest, mOp, mC, mVar, mSetI, mNext, mCB, mCons, mNil, mAndT, mOrT, mNotT, mTruT, mIf, mNeg, mOr, mAnd, mNot, mLst, mTup, mBM, mBM0, mPar, mCall, mCallK, mLstRg1, mTupRg1, mRng1, mRng2, mEnum, mZipT, mFor, mSl, mNoPart, mPart, mLc, wipeM, List.set_cons_zero, List.set_cons_succ, startM, List.map_cons, List.map_nil, List.cons_append, List.nil_append, List.length_cons, List.length_nil, List.replicate, List.getElem?_cons_zero, List.getElem?_cons_succ, Option.some.injEq, Nat.reduceSub, Nat.reduceAdd, true_and, exists_eq_left, exists_eq_left', e_ix_tup, e_ix_lst, e_ix_fz, e_ix_ref, e_lo_lst, e_lo_fz, e_lo_ref, e_so_lst, e_so_fz, e_so_tup, e_so_ref, e_hd_lst, e_hd_ref, e_add_int, e_add_str, e_add_tup, e_add_lst, e_sub_int, e_mul_int, e_mul_lst, e_mul_tup, e_mod_int, e_fdv_int, e_pow_int, e_lt_int, e_le_int, e_gt_int, e_ge_int, e_eq_int, e_ne_int, e_eq_str, e_ne_str, e_isN, e_notN, e_isN_non, e_isN_int, e_isN_tup, e_isN_str, e_isN_ref, e_isN_lst, e_abs, e_max2, e_min2, e_int_int, e_int_bl, e_str_int, e_str_str, e_str_non, e_len_str, e_len_tup, e_len_lst, e_len_fz, e_len_ref, e_list_tup, e_list_lst, e_list_fz, e_list_ref, e_tupl_tup, e_tupl_lst, e_tupl_ref, e_newT, e_newF, e_run_nm, e_run_tp, e_runs_nil, e_runs_cons, e_tru_bl, e_tru_int, e_tru_str, e_tru_lst, e_tru_tup, e_ty_str, e_ty_lst, e_ty_ref, e_append, e_insert, e_popAt, e_pop0, e_join, e_seqI_val, e_cut_str, e_cut_tup, e_cut_lst, e_cut_fz, e_cut_ref]
      obtain ⟨b, hb, hmem⟩ := at_refs (as := as) (i := 0 + (i : Nat)) (by omega) (by omega)
      refine ⟨_, _, rfl, hb, ?_⟩
      simp only [mSeq, mIfS, mAsg, mRet, mRetN, mDrop, mTest, mOp, mC, mVar, mSetI, mNext, mCB, mCons, mNil, mAndT, mOrT, mNotT, mTruT, mIf, mNeg, mOr, mAnd, mNot, mLst, mTup, mBM, mBM0, mPar, mCall, mCallK, mLstRg1, mTupRg1, mRng1, mRng2, mEnum, mZipT, mFor, mSl, mNoPart, mPart, mLc, wipeM, List.set_cons_zero, List.set_cons_succ, startM, List.map_cons, List.map_nil, List.cons_append, List.nil_append, List.length_cons, List.length_nil, List.replicate, List.getElem?_cons_zero, List.getElem?_cons_succ, Option.some.injEq, Nat.reduceSub, Nat.reduceAdd, true_and, exists_eq_left, exists_eq_left', e_ix_tup, e_ix_lst, e_ix_fz, e_ix_ref, e_lo_lst, e_lo_fz, e_lo_ref, e_so_lst, e_so_fz, e_so_tup, e_so_ref, e_hd_lst, e_hd_ref, e_add_int, e_add_str, e_add_tup, e_add_lst, e_sub_int, e_mul_int, e_mul_lst, e_mul_tup, e_mod_int, e_fdv_int, e_pow_int, e_lt_int, e_le_int, e_gt_int, e_ge_int, e_eq_int, e_ne_int, e_eq_str, e_ne_str, e_isN, e_notN, e_isN_non, e_isN_int, e_isN_tup, e_isN_str, e_isN_ref, e_isN_lst, e_abs, e_max2, e_min2, e_int_int, e_int_bl, e_str_int, e_str_str, e_str_non, e_len_str, e_len_tup, e_len_lst, e_len_fz, e_len_ref, e_list_tup, e_list_lst, e_list_fz, e_list_ref, e_tupl_tup, e_tupl_lst, e_tupl_ref, e_newT, e_newF, e_run_nm, e_run_tp, e_runs_nil, e_runs_cons, e_tru_bl, e_tru_int, e_tru_str, e_tru_lst, e_tru_tup, e_ty_str, e_ty_lst, e_ty_ref, e_append, e_insert, e_popAt, e_pop0, e_join, e_seqI_val, e_cut_str, e_cut_tup, e_cut_lst, e_cut_fz, e_cut_ref]
      obtain ⟨row, e, hr⟩ := s.rows b hmem
      have hr1 := hr.1
      refine ⟨row, e, comp_map (reName is) (by have := sizeLine_eq; omega) e (fun x rr hx hq => ?_) ?_⟩
      · simp only [mSeq, mIfS, mAsg, mRet, mRetN, mDrop, mTest, mOp, mC, mVar, mSetI, mNext, mCB, mCons, mNil, mAndT, mOrT, mNotT, mTruT, mIf, mNeg, mOr, mAnd, mNot, mLst, mTup, mBM, mBM0, mPar, mCall, mCallK, mLstRg1, mTupRg1, mRng1, mRng2, mEnum, mZipT, mFor, mSl, mNoPart, mPart, mLc, wipeM, List.set_cons_zero, List.set_cons_succ, startM, List.map_cons, List.map_nil, List.cons_append, List.nil_append, List.length_cons, List.length_nil, List.replicate, List.getElem?_cons_zero, List.getElem?_cons_succ, Option.some.injEq, Nat.reduceSub, Nat.reduceAdd, true_and, exists_eq_left, exists_eq_left', e_ix_tup, e_ix_lst, e_ix_fz, e_ix_ref, e_lo_lst, e_lo_fz, e_lo_ref, e_so_lst, e_so_fz, e_so_tup, e_so_ref, e_hd_lst, e_hd_ref, e_add_int, e_add_str, e_add_tup, e_add_lst, e_sub_int, e_mul_int, e_mul_lst, e_mul_tup, e_mod_int, e_fdv_int, e_pow_int, e_lt_int, e_le_int, e_gt_int, e_ge_int, e_eq_int, e_ne_int, e_eq_str, e_ne_str, e_isN, e_notN, e_isN_non, e_isN_int, e_isN_tup, e_isN_str, e_isN_ref, e_isN_lst, e_abs, e_max2, e_min2, e_int_int, e_int_bl, e_str_int, e_str_str, e_str_non, e_len_str, e_len_tup, e_len_lst, e_len_fz, e_len_ref, e_list_tup, e_list_lst, e_list_fz, e_list_ref, e_tupl_tup, e_tupl_lst, e_tupl_ref, e_newT, e_newF, e_run_nm, e_run_tp, e_runs_nil, e_runs_cons, e_tru_bl, e_tru_int, e_tru_str, e_tru_lst, e_tru_tup, e_ty_str, e_ty_lst, e_ty_ref, e_append, e_insert, e_popAt, e_pop0, e_join, e_seqI_val, e_cut_str, e_cut_tup, e_cut_lst, e_cut_fz, e_cut_ref]
        rcases hr.2 x hx with rfl | ⟨j, rfl, j0, j1⟩
        · simp only [mSeq, mIfS, mAsg, mRet, mRetN, mDrop, mTest, mOp, mC, mVar, mSetI, mNext, mCB, mCons, mNil, mAndT, mOrT, mNotT, mTruT, mIf, mNeg, mOr, mAnd, mNot, mLst, mTup, mBM, mBM0, mPar, mCall, mCallK, mLstRg1, mTupRg1, mRng1, mRng2, mEnum, mZipT, mFor, mSl, mNoPart, mPart, mLc, wipeM, List.set_cons_zero, List.set_cons_succ, startM, List.map_cons, List.map_nil, List.cons_append, List.nil_append, List.length_cons, List.length_nil, List.replicate, List.getElem?_cons_zero, List.getElem?_cons_succ, Option.some.injEq, Nat.reduceSub, Nat.reduceAdd, true_and, exists_eq_left, exists_eq_left', e_ix_tup, e_ix_lst, e_ix_fz, e_ix_ref, e_lo_lst, e_lo_fz, e_lo_ref, e_so_lst, e_so_fz, e_so_tup, e_so_ref, e_hd_lst, e_hd_ref, e_add_int, e_add_str, e_add_tup, e_add_lst, e_sub_int, e_mul_int, e_mul_lst, e_mul_tup, e_mod_int, e_fdv_int, e_pow_int, e_lt_int, e_le_int, e_gt_int, e_ge_int, e_eq_int, e_ne_int, e_eq_str, e_ne_str, e_isN, e_notN, e_isN_non, e_isN_int, e_isN_tup, e_isN_str, e_isN_ref, e_isN_lst, e_abs, e_max2, e_min2, e_int_int, e_int_bl, e_str_int, e_str_str, e_str_non, e_len_str, e_len_tup, e_len_lst, e_len_fz, e_len_ref, e_list_tup, e_list_lst, e_list_fz, e_list_ref, e_tupl_tup, e_tupl_lst, e_tupl_ref, e_newT, e_newF, e_run_nm, e_run_tp, e_runs_nil, e_runs_cons, e_tru_bl, e_tru_int, e_tru_str, e_tru_lst, e_tru_tup, e_ty_str, e_ty_lst, e_ty_ref, e_append, e_insert, e_popAt, e_pop0, e_join, e_seqI_val, e_cut_str, e_cut_tup, e_cut_lst, e_cut_fz, e_cut_ref]; exact hq
        · simp only [mSeq, mIfS, mAsg, mRet, mRetN, mDrop, mTest, mOp, mC, mVar, mSetI, mNext, mCB, mCons, mNil, mAndT, mOrT, mNotT, mTruT, mIf, mNeg, mOr, mAnd, mNot, mLst, mTup, mBM, mBM0, mPar, mCall, mCallK, mLstRg1, mTupRg1, mRng1, mRng2, mEnum, mZipT, mFor, mSl, mNoPart, mPart, mLc, wipeM, List.set_cons_zero, List.set_cons_succ, startM, List.map_cons, List.map_nil, List.cons_append, List.nil_append, List.length_cons, List.length_nil, List.replicate, List.getElem?_cons_zero, List.getElem?_cons_succ, Option.some.injEq, Nat.reduceSub, Nat.reduceAdd, true_and, exists_eq_left, exists_eq_left', e_ix_tup, e_ix_lst, e_ix_fz, e_ix_ref, e_lo_lst, e_lo_fz, e_lo_ref, e_so_lst, e_so_fz, e_so_tup, e_so_ref, e_hd_lst, e_hd_ref, e_add_int, e_add_str, e_add_tup, e_add_lst, e_sub_int, e_mul_int, e_mul_lst, e_mul_tup, e_mod_int, e_fdv_int, e_pow_int, e_lt_int, e_le_int, e_gt_int, e_ge_int, e_eq_int, e_ne_int, e_eq_str, e_ne_str, e_isN, e_notN, e_isN_non, e_isN_int, e_isN_tup, e_isN_str, e_isN_ref, e_isN_lst, e_abs, e_max2, e_min2, e_int_int, e_int_bl, e_str_int, e_str_str, e_str_non, e_len_str, e_len_tup, e_len_lst, e_len_fz, e_len_ref, e_list_tup, e_list_lst, e_list_fz, e_list_ref, e_tupl_tup, e_tupl_lst, e_tupl_ref, e_newT, e_newF, e_run_nm, e_run_tp, e_runs_nil, e_runs_cons, e_tru_bl, e_tru_int, e_tru_str, e_tru_lst, e_tru_tup, e_ty_str, e_ty_lst, e_ty_ref, e_append, e_insert, e_popAt, e_pop0, e_join, e_seqI_val, e_cut_str, e_cut_tup, e_cut_lst, e_cut_fz, e_cut_ref]
          obtain ⟨z, hz, _, _⟩ := at_nums iin j0 (by omega)
          refine ⟨_, _, rfl, hz, ?_⟩
          have : reName is (.int j) = .int z := reName_int hz
          rwa [this] at hq
      · obtain ⟨z, hz, z0, z1⟩ := at_nums iin (i := 0 + (i : Nat)) (by omega) (by omega)
        refine ⟨_, _, rfl, hz, ?_⟩
        obtain ⟨sl, es, ls, als⟩ := S1.s
        refine ⟨sl, z.toNat, es, ixN_in z0 (by omega), ?_⟩
        have sOk : SlotOk (.tup (row.map (reName is))) := .inr ⟨_, rfl, by rw [List.length_map]; exact hr1, fun y hy => by
          obtain ⟨x, hx, rfl⟩ := List.mem_map.mp hy
          rcases hr.2 x hx with rfl | ⟨j, rfl, j0, j1⟩
          · exact .inl rfl
          · obtain ⟨z, hz, h1, h2⟩ := at_nums iin j0 (by omega)
            refine .inr ⟨z, reName_int hz, h1, by omega⟩⟩
        have T1 := S1.set es sOk z.toNat
        have T2 := S2.keep (o := .lst (sl.set z.toNat (.tup (row.map (reName is))))) n12
        have T := s.keep (o := .lst (sl.set z.toNat (.tup (row.map (reName is))))) S1.na S1.nm S1.g
        revert T1 T2 T
        generalize put G' q1 (.lst (sl.set z.toNat (.tup (row.map (reName is))))) = G5
        intro T1 T2 T
        simp only [b_heap_9, mSeq, mIfS, mAsg, mRet, mRetN, mDrop, mTest, mOp, mC, mVar, mSetI, mNext, mCB, mCons, mNil, mAndT, mOrT, mNotT, mTruT, mIf, mNeg, mOr, mAnd, mNot, mLst, mTup, mBM, mBM0, mPar, mCall, mCallK, mLstRg1, mTupRg1, mRng1, mRng2, mEnum, mZipT, mFor, mSl, mNoPart, mPart, mLc, wipeM, List.set_cons_zero, List.set_cons_succ, startM, List.map_cons, List.map_nil, List.cons_append, List.nil_append, List.length_cons, List.length_nil, List.replicate, List.getElem?_cons_zero, List.getElem?_cons_succ, Option.some.injEq, Nat.reduceSub, Nat.reduceAdd, true_and, exists_eq_left, exists_eq_left', e_ix_tup, e_ix_lst, e_ix_fz, e_ix_ref, e_lo_lst, e_lo_fz, e_lo_ref, e_so_lst, e_so_fz, e_so_tup, e_so_ref, e_hd_lst, e_hd_ref, e_add_int, e_add_str, e_add_tup, e_add_lst, e_sub_int, e_mul_int, e_mul_lst, e_mul_tup, e_mod_int, e_fdv_int, e_pow_int, e_lt_int, e_le_int, e_gt_int, e_ge_int, e_eq_int, e_ne_int, e_eq_str, e_ne_str, e_isN, e_notN, e_isN_non, e_isN_int, e_isN_tup, e_isN_str, e_isN_ref, e_isN_lst, e_abs, e_max2, e_min2, e_int_int, e_int_bl, e_str_int, e_str_str, e_str_non, e_len_str, e_len_tup, e_len_lst, e_len_fz, e_len_ref, e_list_tup, e_list_lst, e_list_fz, e_list_ref, e_tupl_tup, e_tupl_lst, e_tupl_ref, e_newT, e_newF, e_run_nm, e_run_tp, e_runs_nil, e_runs_cons, e_tru_bl, e_tru_int, e_tru_str, e_tru_lst, e_tru_tup, e_ty_str, e_ty_lst, e_ty_ref, e_append, e_insert, e_popAt, e_pop0, e_join, e_seqI_val, e_cut_str, e_cut_tup, e_cut_lst, e_cut_fz, e_cut_ref]
        have skip : N [some (.ref a), some (.int n), some (.int r), some (.lst (as.map D.ref)), some (.int t), some (.lst (is.map D.int)), some (.ref q1), some (.ref q2), some (.int (0 + (i : Nat))), v9] G5 := hN _ _ ⟨⟨_, _, rfl⟩, T.mono (Nat.le_refl _) (by omega), T1, T2⟩
        by_cases hv : (0 : Int) < 0 + (i : Nat)
        · simp only [hv, decide_true, e_sp_draw, mSeq, mIfS, mAsg, mRet, mRetN, mDrop, mTest, mOp, mC, mVar, mSetI, mNext, mCB, mCons, mNil, mAndT, mOrT, mNotT, mTruT, mIf, mNeg, mOr, mAnd, mNot, mLst, mTup, mBM, mBM0, mPar, mCall, mCallK, mLstRg1, mTupRg1, mRng1, mRng2, mEnum, mZipT, mFor, mSl, mNoPart, mPart, mLc, wipeM, List.set_cons_zero, List.set_cons_succ, startM, List.map_cons, List.map_nil, List.cons_append, List.nil_append, List.length_cons, List.length_nil, List.replicate, List.getElem?_cons_zero, List.getElem?_cons_succ, Option.some.injEq, Nat.reduceSub, Nat.reduceAdd, true_and, exists_eq_left, exists_eq_left', e_ix_tup, e_ix_lst, e_ix_fz, e_ix_ref, e_lo_lst, e_lo_fz, e_lo_ref, e_so_lst, e_so_fz, e_so_tup, e_so_ref, e_hd_lst, e_hd_ref, e_add_int, e_add_str, e_add_tup, e_add_lst, e_sub_int, e_mul_int, e_mul_lst, e_mul_tup, e_mod_int, e_fdv_int, e_pow_int, e_lt_int, e_le_int, e_gt_int, e_ge_int, e_eq_int, e_ne_int, e_eq_str, e_ne_str, e_isN, e_notN, e_isN_non, e_isN_int, e_isN_tup, e_isN_str, e_isN_ref, e_isN_lst, e_abs, e_max2, e_min2, e_int_int, e_int_bl, e_str_int, e_str_str, e_str_non, e_len_str, e_len_tup, e_len_lst, e_len_fz, e_len_ref, e_list_tup, e_list_lst, e_list_fz, e_list_ref, e_tupl_tup, e_tupl_lst, e_tupl_ref, e_newT, e_newF, e_run_nm, e_run_tp, e_runs_nil, e_runs_cons, e_tru_bl, e_tru_int, e_tru_str, e_tru_lst, e_tru_tup, e_ty_str, e_ty_lst, e_ty_ref, e_append, e_insert, e_popAt, e_pop0, e_join, e_seqI_val, e_cut_str, e_cut_tup, e_cut_lst, e_cut_fz, e_cut_ref]
          obtain ⟨o', ea, p'⟩ := T.pen
          refine draw_at (E := noX) ea p' (by omega) (by omega) (by omega) fun y o5 y0 y1 p5 => ?_
          have T' := T.draw p5
          have T1' := T1.keep (o := o5) S1.na.symm
          have T2' := T2.keep (o := o5) S2.na.symm
          simp only [mSeq, mIfS, mAsg, mRet, mRetN, mDrop, mTest, mOp, mC, mVar, mSetI, mNext, mCB, mCons, mNil, mAndT, mOrT, mNotT, mTruT, mIf, mNeg, mOr, mAnd, mNot, mLst, mTup, mBM, mBM0, mPar, mCall, mCallK, mLstRg1, mTupRg1, mRng1, mRng2, mEnum, mZipT, mFor, mSl, mNoPart, mPart, mLc, wipeM, List.set_cons_zero, List.set_cons_succ, startM, List.map_cons, List.map_nil, List.cons_append, List.nil_append, List.length_cons, List.length_nil, List.replicate, List.getElem?_cons_zero, List.getElem?_cons_succ, Option.some.injEq, Nat.reduceSub, Nat.reduceAdd, true_and, exists_eq_left, exists_eq_left', e_ix_tup, e_ix_lst, e_ix_fz, e_ix_ref, e_lo_lst, e_lo_fz, e_lo_ref, e_so_lst, e_so_fz, e_so_tup, e_so_ref, e_hd_lst, e_hd_ref, e_add_int, e_add_str, e_add_tup, e_add_lst, e_sub_int, e_mul_int, e_mul_lst, e_mul_tup, e_mod_int, e_fdv_int, e_pow_int, e_lt_int, e_le_int, e_gt_int, e_ge_int, e_eq_int, e_ne_int, e_eq_str, e_ne_str, e_isN, e_notN, e_isN_non, e_isN_int, e_isN_tup, e_isN_str, e_isN_ref, e_isN_lst, e_abs, e_max2, e_min2, e_int_int, e_int_bl, e_str_int, e_str_str, e_str_non, e_len_str, e_len_tup, e_len_lst, e_len_fz, e_len_ref, e_list_tup, e_list_lst, e_list_fz, e_list_ref, e_tupl_tup, e_tupl_lst, e_tupl_ref, e_newT, e_newF, e_run_nm, e_run_tp, e_runs_nil, e_runs_cons, e_tru_bl, e_tru_int, e_tru_str, e_tru_lst, e_tru_tup, e_ty_str, e_ty_lst, e_ty_ref, e_append, e_insert, e_popAt, e_pop0, e_join, e_seqI_val, e_cut_str, e_cut_tup, e_cut_lst, e_cut_fz, e_cut_ref]
          by_cases hy : y = 0
          · simp only [hy, decide_true, b_heap_10, e_sp_draw, mSeq, mIfS, mAsg, mRet, mRetN, mDrop, mTest, mOp, mC, mVar, mSetI, mNext, mCB, mCons, mNil, mAndT, mOrT, mNotT, mTruT, mIf, mNeg, mOr, mAnd, mNot, mLst, mTup, mBM, mBM0, mPar, mCall, mCallK, mLstRg1, mTupRg1, mRng1, mRng2, mEnum, mZipT, mFor, mSl, mNoPart, mPart, mLc, wipeM, List.set_cons_zero, List.set_cons_succ, startM, List.map_cons, List.map_nil, List.cons_append, List.nil_append, List.length_cons, List.length_nil, List.replicate, List.getElem?_cons_zero, List.getElem?_cons_succ, Option.some.injEq, Nat.reduceSub, Nat.reduceAdd, true_and, exists_eq_left, exists_eq_left', e_ix_tup, e_ix_lst, e_ix_fz, e_ix_ref, e_lo_lst, e_lo_fz, e_lo_ref, e_so_lst, e_so_fz, e_so_tup, e_so_ref, e_hd_lst, e_hd_ref, e_add_int, e_add_str, e_add_tup, e_add_lst, e_sub_int, e_mul_int, e_mul_lst, e_mul_tup, e_mod_int, e_fdv_int, e_pow_int, e_lt_int, e_le_int, e_gt_int, e_ge_int, e_eq_int, e_ne_int, e_eq_str, e_ne_str, e_isN, e_notN, e_isN_non, e_isN_int, e_isN_tup, e_isN_str, e_isN_ref, e_isN_lst, e_abs, e_max2, e_min2, e_int_int, e_int_bl, e_str_int, e_str_str, e_str_non, e_len_str, e_len_tup, e_len_lst, e_len_fz, e_len_ref, e_list_tup, e_list_lst, e_list_fz, e_list_ref, e_tupl_tup, e_tupl_lst, e_tupl_ref, e_newT, e_newF, e_run_nm, e_run_tp, e_runs_nil, e_runs_cons, e_tru_bl, e_tru_int, e_tru_str, e_tru_lst, e_tru_tup, e_ty_str, e_ty_lst, e_ty_ref, e_append, e_insert, e_popAt, e_pop0, e_join, e_seqI_val, e_cut_str, e_cut_tup, e_cut_lst, e_cut_fz, e_cut_ref]
            refine draw_at (E := noX) put_same p5 (by omega) (by omega) (by omega) fun y2 o6 y20 y21 p6 => ?_
            have U := T'.draw p6
            have U1 := T1'.keep (o := o6) S1.na.symm
            have U2 := T2'.keep (o := o6) S2.na.symm
            simp only [mSeq, mIfS, mAsg, mRet, mRetN, mDrop, mTest, mOp, mC, mVar, mSetI, mNext, mCB, mCons, mNil, mAndT, mOrT, mNotT, mTruT, mIf, mNeg, mOr, mAnd, mNot, mLst, mTup, mBM, mBM0, mPar, mCall, mCallK, mLstRg1, mTupRg1, mRng1, mRng2, mEnum, mZipT, mFor, mSl, mNoPart, mPart, mLc, wipeM, List.set_cons_zero, List.set_cons_succ, startM, List.map_cons, List.map_nil, List.cons_append, List.nil_append, List.length_cons, List.length_nil, List.replicate, List.getElem?_cons_zero, List.getElem?_cons_succ, Option.some.injEq, Nat.reduceSub, Nat.reduceAdd, true_and, exists_eq_left, exists_eq_left', e_ix_tup, e_ix_lst, e_ix_fz, e_ix_ref, e_lo_lst, e_lo_fz, e_lo_ref, e_so_lst, e_so_fz, e_so_tup, e_so_ref, e_hd_lst, e_hd_ref, e_add_int, e_add_str, e_add_tup, e_add_lst, e_sub_int, e_mul_int, e_mul_lst, e_mul_tup, e_mod_int, e_fdv_int, e_pow_int, e_lt_int, e_le_int, e_gt_int, e_ge_int, e_eq_int, e_ne_int, e_eq_str, e_ne_str, e_isN, e_notN, e_isN_non, e_isN_int, e_isN_tup, e_isN_str, e_isN_ref, e_isN_lst, e_abs, e_max2, e_min2, e_int_int, e_int_bl, e_str_int, e_str_str, e_str_non, e_len_str, e_len_tup, e_len_lst, e_len_fz, e_len_ref, e_list_tup, e_list_lst, e_list_fz, e_list_ref, e_tupl_tup, e_tupl_lst, e_tupl_ref, e_newT, e_newF, e_run_nm, e_run_tp, e_runs_nil, e_runs_cons, e_tru_bl, e_tru_int, e_tru_str, e_tru_lst, e_tru_tup, e_ty_str, e_ty_lst, e_ty_ref, e_append, e_insert, e_popAt, e_pop0, e_join, e_seqI_val, e_cut_str, e_cut_tup, e_cut_lst, e_cut_fz, e_cut_ref]
            refine ⟨_, _, rfl, hz, ?_⟩
            obtain ⟨sl2, es2, ls2, als2⟩ := U2.s
            refine ⟨sl2, z.toNat, es2, ixN_in z0 (by omega), hN _ _ ⟨⟨_, _, rfl⟩, (U.keep S2.na S2.nm S2.g).mono (Nat.le_refl _) (by omega), U1.keep n12.symm, U2.set es2 ⟨_, rfl, by omega, by omega⟩ _⟩⟩
          · simp only [hy, decide_false, mSeq, mIfS, mAsg, mRet, mRetN, mDrop, mTest, mOp, mC, mVar, mSetI, mNext, mCB, mCons, mNil, mAndT, mOrT, mNotT, mTruT, mIf, mNeg, mOr, mAnd, mNot, mLst, mTup, mBM, mBM0, mPar, mCall, mCallK, mLstRg1, mTupRg1, mRng1, mRng2, mEnum, mZipT, mFor, mSl, mNoPart, mPart, mLc, wipeM, List.set_cons_zero, List.set_cons_succ, startM, List.map_cons, List.map_nil, List.cons_append, List.nil_append, List.length_cons, List.length_nil, List.replicate, List.getElem?_cons_zero, List.getElem?_cons_succ, Option.some.injEq, Nat.reduceSub, Nat.reduceAdd, true_and, exists_eq_left, exists_eq_left', e_ix_tup, e_ix_lst, e_ix_fz, e_ix_ref, e_lo_lst, e_lo_fz, e_lo_ref, e_so_lst, e_so_fz, e_so_tup, e_so_ref, e_hd_lst, e_hd_ref, e_add_int, e_add_str, e_add_tup, e_add_lst, e_sub_int, e_mul_int, e_mul_lst, e_mul_tup, e_mod_int, e_fdv_int, e_pow_int, e_lt_int, e_le_int, e_gt_int, e_ge_int, e_eq_int, e_ne_int, e_eq_str, e_ne_str, e_isN, e_notN, e_isN_non, e_isN_int, e_isN_tup, e_isN_str, e_isN_ref, e_isN_lst, e_abs, e_max2, e_min2, e_int_int, e_int_bl, e_str_int, e_str_str, e_str_non, e_len_str, e_len_tup, e_len_lst, e_len_fz, e_len_ref, e_list_tup, e_list_lst, e_list_fz, e_list_ref, e_tupl_tup, e_tupl_lst, e_tupl_ref, e_newT, e_newF, e_run_nm, e_run_tp, e_runs_nil, e_runs_cons, e_tru_bl, e_tru_int, e_tru_str, e_tru_lst, e_tru_tup, e_ty_str, e_ty_lst, e_ty_ref, e_append, e_insert, e_popAt, e_pop0, e_join, e_seqI_val, e_cut_str, e_cut_tup, e_cut_lst, e_cut_fz, e_cut_ref]
            exact hN _ _ ⟨⟨_, _, rfl⟩, T'.mono (Nat.le_refl _) (by omega), T1', T2'⟩
        · simp only [hv, decide_false, mSeq, mIfS, mAsg, mRet, mRetN, mDrop, mTest, mOp, mC, mVar, mSetI, mNext, mCB, mCons, mNil, mAndT, mOrT, mNotT, mTruT, mIf, mNeg, mOr, mAnd, mNot, mLst, mTup, mBM, mBM0, mPar, mCall, mCallK, mLstRg1, mTupRg1, mRng1, mRng2, mEnum, mZipT, mFor, mSl, mNoPart, mPart, mLc, wipeM, List.set_cons_zero, List.set_cons_succ, startM, List.map_cons, List.map_nil, List.cons_append, List.nil_append, List.length_cons, List.length_nil, List.replicate, List.getElem?_cons_zero, List.getElem?_cons_succ, Option.some.injEq, Nat.reduceSub, Nat.reduceAdd, true_and, exists_eq_left, exists_eq_left', e_ix_tup, e_ix_lst, e_ix_fz, e_ix_ref, e_lo_lst, e_lo_fz, e_lo_ref, e_so_lst, e_so_fz, e_so_tup, e_so_ref, e_hd_lst, e_hd_ref, e_add_int, e_add_str, e_add_tup, e_add_lst, e_sub_int, e_mul_int, e_mul_lst, e_mul_tup, e_mod_int, e_fdv_int, e_pow_int, e_lt_int, e_le_int, e_gt_int, e_ge_int, e_eq_int, e_ne_int, e_eq_str, e_ne_str, e_isN, e_notN, e_isN_non, e_isN_int, e_isN_tup, e_isN_str, e_isN_ref, e_isN_lst, e_abs, e_max2, e_min2, e_int_int, e_int_bl, e_str_int, e_str_str, e_str_non, e_len_str, e_len_tup, e_len_lst, e_len_fz, e_len_ref, e_list_tup, e_list_lst, e_list_fz, e_list_ref, e_tupl_tup, e_tupl_lst, e_tupl_ref, e_newT, e_newF, e_run_nm, e_run_tp, e_runs_nil, e_runs_cons, e_tru_bl, e_tru_int, e_tru_str, e_tru_lst, e_tru_tup, e_ty_str, e_ty_lst, e_ty_ref, e_append, e_insert, e_popAt, e_pop0, e_join, e_seqI_val, e_cut_str, e_cut_tup, e_cut_lst, e_cut_fz, e_cut_ref]
          exact skip
    · rintro τ G' ⟨⟨v8, v9, rfl⟩, s, S1, S2⟩
      rw [rng_len] at s
      refine ⟨trivial, ?_⟩
      simp only [b_heap_11, e_sp_draw, mSeq, mIfS, mAsg, mRet, mRetN, mDrop, mTest, mOp, mC, mVar, mSetI, mNext, mCB, mCons, mNil, mAndT, mOrT, mNotT, mTruT, mIf, mNeg, mOr, mAnd, mNot, mLst, mTup, mBM, mBM0, mPar, mCall, mCallK, mLstRg1, mTupRg1, mRng1, mRng2, mEnum, mZipT, mFor, mSl, mNoPart, mPart, mLc, wipeM, List.set_cons_zero, List.set_cons_succ, startM, List.map_cons, List.map_nil, List.cons_append, List.nil_append, List.length_cons, List.length_nil, List.replicate, List.getElem?_cons_zero, List.getElem?_cons_succ, Option.some.injEq, Nat.reduceSub, Nat.reduceAdd, true_and, exists_eq_left, exists_eq_left', e_ix_tup, e_ix_lst, e_ix_fz, e_ix_ref, e_lo_lst, e_lo_fz, e_lo_ref, e_so_lst, e_so_fz, e_so_tup, e_so_ref, e_hd_lst, e_hd_ref, e_add_int, e_add_str, e_add_tup, e_add_lst, e_sub_int, e_mul_int, e_mul_lst, e_mul_tup, e_mod_int, e_fdv_int, e_pow_int, e_lt_int, e_le_int, e_gt_int, e_ge_int, e_eq_int, e_ne_int, e_eq_str, e_ne_str, e_isN, e_notN, e_isN_non, e_isN_int, e_isN_tup, e_isN_str, e_isN_ref, e_isN_lst, e_abs, e_max2, e_min2, e_int_int, e_int_bl, e_str_int, e_str_str, e_str_non, e_len_str, e_len_tup, e_len_lst, e_len_fz, e_len_ref, e_list_tup, e_list_lst, e_list_fz, e_list_ref, e_tupl_tup, e_tupl_lst, e_tupl_ref, e_newT, e_newF, e_run_nm, e_run_tp, e_runs_nil, e_runs_cons, e_tru_bl, e_tru_int, e_tru_str, e_tru_lst, e_tru_tup, e_ty_str, e_ty_lst, e_ty_ref, e_append, e_insert, e_popAt, e_pop0, e_join, e_seqI_val, e_cut_str, e_cut_tup, e_cut_lst, e_cut_fz, e_cut_ref]
      refine ⟨by decide, ?_⟩
      obtain ⟨o', ea, p'⟩ := s.pen
      refine draw_at (E := noX) ea p' (by omega) (by omega) (by omega) fun y o5 y0 y1 p5 => ?_
      have T' := s.draw p5
      have T1' := S1.keep (o := o5) S1.na.symm
      have T2' := S2.keep (o := o5) S2.na.symm
      obtain ⟨z, hz, z0, z1⟩ := at_nums iin (i := 0) (by omega) (by omega)
      have go : ∀ c : Int, 0 ≤ c → c ≤ 9 → ∃ xs j, put G' a o5 q2 = some (.lst xs) ∧ ixN xs.length z = some j ∧ b_heap_12 { nx := fun x G' => less q D.non G', rt := less q } [some (.ref a), some (.int n), some (.int r), some (.lst (as.map D.ref)), some (.int t), some (.lst (is.map D.int)), some (.ref q1), some (.ref q2), v8, v9] (put (put G' a o5) q2 (.lst (xs.set j (.int c)))) := by
        intro c c0 c1
        obtain ⟨sl2, es2, ls2, als2⟩ := T2'.s
        refine ⟨sl2, z.toNat, es2, ixN_in z0 (by omega), ?_⟩
        have V := T'.keep (o := .lst (sl2.set z.toNat (.int c))) S2.na S2.nm S2.g
        have V1 := T1'.keep (o := .lst (sl2.set z.toNat (.int c))) n12.symm
        have V2 := T2'.set es2 (x := .int c) ⟨_, rfl, c0, c1⟩ z.toNat
        revert V V1 V2
        generalize put (put G' a o5) q2 (.lst (sl2.set z.toNat (.int c))) = G6
        intro V V1 V2
        obtain ⟨sa, ea1, la, alla⟩ := V1.s
        obtain ⟨sb, eb1, lb, allb⟩ := V2.s
        simp only [b_heap_12, mSeq, mIfS, mAsg, mRet, mRetN, mDrop, mTest, mOp, mC, mVar, mSetI, mNext, mCB, mCons, mNil, mAndT, mOrT, mNotT, mTruT, mIf, mNeg, mOr, mAnd, mNot, mLst, mTup, mBM, mBM0, mPar, mCall, mCallK, mLstRg1, mTupRg1, mRng1, mRng2, mEnum, mZipT, mFor, mSl, mNoPart, mPart, mLc, wipeM, List.set_cons_zero, List.set_cons_succ, startM, List.map_cons, List.map_nil, List.cons_append, List.nil_append, List.length_cons, List.length_nil, List.replicate, List.getElem?_cons_zero, List.getElem?_cons_succ, Option.some.injEq, Nat.reduceSub, Nat.reduceAdd, true_and, exists_eq_left, exists_eq_left', e_ix_tup, e_ix_lst, e_ix_fz, e_ix_ref, e_lo_lst, e_lo_fz, e_lo_ref, e_so_lst, e_so_fz, e_so_tup, e_so_ref, e_hd_lst, e_hd_ref, e_add_int, e_add_str, e_add_tup, e_add_lst, e_sub_int, e_mul_int, e_mul_lst, e_mul_tup, e_mod_int, e_fdv_int, e_pow_int, e_lt_int, e_le_int, e_gt_int, e_ge_int, e_eq_int, e_ne_int, e_eq_str, e_ne_str, e_isN, e_notN, e_isN_non, e_isN_int, e_isN_tup, e_isN_str, e_isN_ref, e_isN_lst, e_abs, e_max2, e_min2, e_int_int, e_int_bl, e_str_int, e_str_str, e_str_non, e_len_str, e_len_tup, e_len_lst, e_len_fz, e_len_ref, e_list_tup, e_list_lst, e_list_fz, e_list_ref, e_tupl_tup, e_tupl_lst, e_tupl_ref, e_newT, e_newF, e_run_nm, e_run_tp, e_runs_nil, e_runs_cons, e_tru_bl, e_tru_int, e_tru_str, e_tru_lst, e_tru_tup, e_ty_str, e_ty_lst, e_ty_ref, e_append, e_insert, e_popAt, e_pop0, e_join, e_seqI_val, e_cut_str, e_cut_tup, e_cut_lst, e_cut_fz, e_cut_ref]
        refine ⟨sa, ea1, sb, eb1, by decide, _, _, rfl, hz, by decide, ?_⟩
        obtain ⟨o7, ea7, p7⟩ := V.pen
        exact less_of (V.fin ea7) (kq sa sb _ o7 ⟨by omega, by omega, alla, allb⟩ (p7.mono (by omega)))
      simp only [mSeq, mIfS, mAsg, mRet, mRetN, mDrop, mTest, mOp, mC, mVar, mSetI, mNext, mCB, mCons, mNil, mAndT, mOrT, mNotT, mTruT, mIf, mNeg, mOr, mAnd, mNot, mLst, mTup, mBM, mBM0, mPar, mCall, mCallK, mLstRg1, mTupRg1, mRng1, mRng2, mEnum, mZipT, mFor, mSl, mNoPart, mPart, mLc, wipeM, List.set_cons_zero, List.set_cons_succ, startM, List.map_cons, List.map_nil, List.cons_append, List.nil_append, List.length_cons, List.length_nil, List.replicate, List.getElem?_cons_zero, List.getElem?_cons_succ, Option.some.injEq, Nat.reduceSub, Nat.reduceAdd, true_and, exists_eq_left, exists_eq_left', e_ix_tup, e_ix_lst, e_ix_fz, e_ix_ref, e_lo_lst, e_lo_fz, e_lo_ref, e_so_lst, e_so_fz, e_so_tup, e_so_ref, e_hd_lst, e_hd_ref, e_add_int, e_add_str, e_add_tup, e_add_lst, e_sub_int, e_mul_int, e_mul_lst, e_mul_tup, e_mod_int, e_fdv_int, e_pow_int, e_lt_int, e_le_int, e_gt_int, e_ge_int, e_eq_int, e_ne_int, e_eq_str, e_ne_str, e_isN, e_notN, e_isN_non, e_isN_int, e_isN_tup, e_isN_str, e_isN_ref, e_isN_lst, e_abs, e_max2, e_min2, e_int_int, e_int_bl, e_str_int, e_str_str, e_str_non, e_len_str, e_len_tup, e_len_lst, e_len_fz, e_len_ref, e_list_tup, e_list_lst, e_list_fz, e_list_ref, e_tupl_tup, e_tupl_lst, e_tupl_ref, e_newT, e_newF, e_run_nm, e_run_tp, e_runs_nil, e_runs_cons, e_tru_bl, e_tru_int, e_tru_str, e_tru_lst, e_tru_tup, e_ty_str, e_ty_lst, e_ty_ref, e_append, e_insert, e_popAt, e_pop0, e_join, e_seqI_val, e_cut_str, e_cut_tup, e_cut_lst, e_cut_fz, e_cut_ref]
      have hy : y = 0 ∨ y = 1 ∨ y = 2 ∨ y = 3 ∨ y = 4 := by omega
      rcases hy with rfl | rfl | rfl | rfl | rfl
      · exact ⟨_, _, rfl, rfl, _, _, rfl, hz, go 1 (by omega) (by omega)⟩
      · exact ⟨_, _, rfl, rfl, _, _, rfl, hz, go 1 (by omega) (by omega)⟩
      · exact ⟨_, _, rfl, rfl, _, _, rfl, hz, go 1 (by omega) (by omega)⟩
      · exact ⟨_, _, rfl, rfl, _, _, rfl, hz, go 2 (by omega) (by omega)⟩
      · exact ⟨_, _, rfl, rfl, _, _, rfl, hz, go 9 (by omega) (by omega)⟩
  simp only [b_heap_3, e_sp_draw, mSeq, mIfS, mAsg, mRet, mRetN, mDrop, mTest, mOp, mC, mVar, mSetI, mNext, mCB, mCons, mNil, mAndT, mOrT, mNotT, mTruT, mIf, mNeg, mOr, mAnd, mNot, mLst, mTup, mBM, mBM0, mPar, mCall, mCallK, mLstRg1, mTupRg1, mRng1, mRng2, mEnum, mZipT, mFor, mSl, mNoPart, mPart, mLc, wipeM, List.set_cons_zero, List.set_cons_succ, startM, List.map_cons, List.map_nil, List.cons_append, List.nil_append, List.length_cons, List.length_nil, List.replicate, List.getElem?_cons_zero, List.getElem?_cons_succ, Option.some.injEq, Nat.reduceSub, Nat.reduceAdd, true_and, exists_eq_left, exists_eq_left', e_ix_tup, e_ix_lst, e_ix_fz, e_ix_ref, e_lo_lst, e_lo_fz, e_lo_ref, e_so_lst, e_so_fz, e_so_tup, e_so_ref, e_hd_lst, e_hd_ref, e_add_int, e_add_str, e_add_tup, e_add_lst, e_sub_int, e_mul_int, e_mul_lst, e_mul_tup, e_mod_int, e_fdv_int, e_pow_int, e_lt_int, e_le_int, e_gt_int, e_ge_int, e_eq_int, e_ne_int, e_eq_str, e_ne_str, e_isN, e_notN, e_isN_non, e_isN_int, e_isN_tup, e_isN_str, e_isN_ref, e_isN_lst, e_abs, e_max2, e_min2, e_int_int, e_int_bl, e_str_int, e_str_str, e_str_non, e_len_str, e_len_tup, e_len_lst, e_len_fz, e_len_ref, e_list_tup, e_list_lst, e_list_fz, e_list_ref, e_tupl_tup, e_tupl_lst, e_tupl_ref, e_newT, e_newF, e_run_nm, e_run_tp, e_runs_nil, e_runs_cons, e_tru_bl, e_tru_int, e_tru_str, e_tru_lst, e_tru_tup, e_ty_str, e_ty_lst, e_ty_ref, e_append, e_insert, e_popAt, e_pop0, e_join, e_seqI_val, e_cut_str, e_cut_tup, e_cut_lst, e_cut_fz, e_cut_ref]
  obtain ⟨o', ea, p'⟩ := s.pen
  refine draw_at (E := noX) ea p' (by omega) (by omega) (by omega) fun x o2 x0 x1 p2 => ?_
  have s2 := s.draw p2
  refine ⟨by decide, ?_⟩
  refine draw_at (E := noX) put_same p2 (by omega) (by omega) (by omega) fun w o3 w0 w1 p3 => ?_
  have s3 := s2.draw p3
  have hw : w = 0 ∨ w = 1 ∨ w = 2 ∨ w = 3 := by omega
  rcases hw with rfl | rfl | rfl | rfl
  · exact ⟨_, _, rfl, rfl, rest _ _ (by split <;> omega) (by split <;> omega) (s3.mono (Nat.le_refl _) (by omega))⟩
  · exact ⟨_, _, rfl, rfl, rest _ _ (by split <;> omega) (by split <;> omega) (s3.mono (Nat.le_refl _) (by omega))⟩
  · exact ⟨_, _, rfl, rfl, rest _ _ (by split <;> omega) (by split <;> omega) (s3.mono (Nat.le_refl _) (by omega))⟩
  · exact ⟨_, _, rfl, rfl, rest _ _ (by split <;> omega) (by split <;> omega) (s3.mono (Nat.le_refl _) (by omega))⟩
end Q81

set_option maxRecDepth 100000
namespace Q81
open PySem PySem.Spec L2 ML
open PyProof.Rows hiding St
def IntIn (n : Nat) (x : D) : Prop := ∃ i : Int, x = .int i ∧ 0 ≤ i ∧ i < (n : Int)
theorem law_children (x0 x1 : D) (G : Gp) (q : MK) (h : p_children x0 x1 G q) : b_children { nx := fun _ G' => less q .non G', rt := less q } (startM ["_law_pen_here", "_law_most", "_law_size_here", "_law_names", "_law_deep", "_law_rows", "_law_k", "_law_row", "_law_found"] [x0, x1]) G := by
  obtain ⟨a, n, m, o, rfl, rfl, hn, hn2, h0, hp, hm, kq⟩ := h
  simp only [b_children, e_sp_size, mSeq, mIfS, mAsg, mRet, mRetN, mDrop, mTest, mOp, mC, mVar, mSetI, mNext, mCB, mCons, mNil, mAndT, mOrT, mNotT, mTruT, mIf, mNeg, mOr, mAnd, mNot, mLst, mTup, mBM, mBM0, mPar, mCall, mCallK, mLstRg1, mTupRg1, mRng1, mRng2, mEnum, mZipT, mFor, mSl, mNoPart, mPart, mLc, wipeM, List.set_cons_zero, List.set_cons_succ, startM, List.map_cons, List.map_nil, List.cons_append, List.nil_append, List.length_cons, List.length_nil, List.replicate, List.getElem?_cons_zero, List.getElem?_cons_succ, Option.some.injEq, Nat.reduceSub, Nat.reduceAdd, true_and, exists_eq_left, exists_eq_left', e_ix_tup, e_ix_lst, e_ix_fz, e_ix_ref, e_lo_lst, e_lo_fz, e_lo_ref, e_so_lst, e_so_fz, e_so_tup, e_so_ref, e_hd_lst, e_hd_ref, e_add_int, e_add_str, e_add_tup, e_add_lst, e_sub_int, e_mul_int, e_mul_lst, e_mul_tup, e_mod_int, e_fdv_int, e_pow_int, e_lt_int, e_le_int, e_gt_int, e_ge_int, e_eq_int, e_ne_int, e_eq_str, e_ne_str, e_isN, e_notN, e_isN_non, e_isN_int, e_isN_tup, e_isN_str, e_isN_ref, e_isN_lst, e_abs, e_max2, e_min2, e_int_int, e_int_bl, e_str_int, e_str_str, e_str_non, e_len_str, e_len_tup, e_len_lst, e_len_fz, e_len_ref, e_list_tup, e_list_lst, e_list_fz, e_list_ref, e_tupl_tup, e_tupl_lst, e_tupl_ref, e_newT, e_newF, e_run_nm, e_run_tp, e_runs_nil, e_runs_cons, e_tru_bl, e_tru_int, e_tru_str, e_tru_lst, e_tru_tup, e_ty_str, e_ty_lst, e_ty_ref, e_append, e_insert, e_popAt, e_pop0, e_join, e_seqI_val, e_cut_str, e_cut_tup, e_cut_lst, e_cut_fz, e_cut_ref]
  refine ⟨a, n, m, o, rfl, rfl, hn, hn2, h0, hp, by omega, fun r o1 r1 r2 p1 => ?_⟩
  simp only [b_children_2, e_sp_order, mSeq, mIfS, mAsg, mRet, mRetN, mDrop, mTest, mOp, mC, mVar, mSetI, mNext, mCB, mCons, mNil, mAndT, mOrT, mNotT, mTruT, mIf, mNeg, mOr, mAnd, mNot, mLst, mTup, mBM, mBM0, mPar, mCall, mCallK, mLstRg1, mTupRg1, mRng1, mRng2, mEnum, mZipT, mFor, mSl, mNoPart, mPart, mLc, wipeM, List.set_cons_zero, List.set_cons_succ, startM, List.map_cons, List.map_nil, List.cons_append, List.nil_append, List.length_cons, List.length_nil, List.replicate, List.getElem?_cons_zero, List.getElem?_cons_succ, Option.some.injEq, Nat.reduceSub, Nat.reduceAdd, true_and, exists_eq_left, exists_eq_left', e_ix_tup, e_ix_lst, e_ix_fz, e_ix_ref, e_lo_lst, e_lo_fz, e_lo_ref, e_so_lst, e_so_fz, e_so_tup, e_so_ref, e_hd_lst, e_hd_ref, e_add_int, e_add_str, e_add_tup, e_add_lst, e_sub_int, e_mul_int, e_mul_lst, e_mul_tup, e_mod_int, e_fdv_int, e_pow_int, e_lt_int, e_le_int, e_gt_int, e_ge_int, e_eq_int, e_ne_int, e_eq_str, e_ne_str, e_isN, e_notN, e_isN_non, e_isN_int, e_isN_tup, e_isN_str, e_isN_ref, e_isN_lst, e_abs, e_max2, e_min2, e_int_int, e_int_bl, e_str_int, e_str_str, e_str_non, e_len_str, e_len_tup, e_len_lst, e_len_fz, e_len_ref, e_list_tup, e_list_lst, e_list_fz, e_list_ref, e_tupl_tup, e_tupl_lst, e_tupl_ref, e_newT, e_newF, e_run_nm, e_run_tp, e_runs_nil, e_runs_cons, e_tru_bl, e_tru_int, e_tru_str, e_tru_lst, e_tru_tup, e_ty_str, e_ty_lst, e_ty_ref, e_append, e_insert, e_popAt, e_pop0, e_join, e_seqI_val, e_cut_str, e_cut_tup, e_cut_lst, e_cut_fz, e_cut_ref]
  refine ⟨a, r, m + 4, o1, rfl, rfl, by omega, put_same, p1, by omega, fun is o2 il iin p2 => ?_⟩
  simp only [b_children_3, e_sp_draw, mSeq, mIfS, mAsg, mRet, mRetN, mDrop, mTest, mOp, mC, mVar, mSetI, mNext, mCB, mCons, mNil, mAndT, mOrT, mNotT, mTruT, mIf, mNeg, mOr, mAnd, mNot, mLst, mTup, mBM, mBM0, mPar, mCall, mCallK, mLstRg1, mTupRg1, mRng1, mRng2, mEnum, mZipT, mFor, mSl, mNoPart, mPart, mLc, wipeM, List.set_cons_zero, List.set_cons_succ, startM, List.map_cons, List.map_nil, List.cons_append, List.nil_append, List.length_cons, List.length_nil, List.replicate, List.getElem?_cons_zero, List.getElem?_cons_succ, Option.some.injEq, Nat.reduceSub, Nat.reduceAdd, true_and, exists_eq_left, exists_eq_left', e_ix_tup, e_ix_lst, e_ix_fz, e_ix_ref, e_lo_lst, e_lo_fz, e_lo_ref, e_so_lst, e_so_fz, e_so_tup, e_so_ref, e_hd_lst, e_hd_ref, e_add_int, e_add_str, e_add_tup, e_add_lst, e_sub_int, e_mul_int, e_mul_lst, e_mul_tup, e_mod_int, e_fdv_int, e_pow_int, e_lt_int, e_le_int, e_gt_int, e_ge_int, e_eq_int, e_ne_int, e_eq_str, e_ne_str, e_isN, e_notN, e_isN_non, e_isN_int, e_isN_tup, e_isN_str, e_isN_ref, e_isN_lst, e_abs, e_max2, e_min2, e_int_int, e_int_bl, e_str_int, e_str_str, e_str_non, e_len_str, e_len_tup, e_len_lst, e_len_fz, e_len_ref, e_list_tup, e_list_lst, e_list_fz, e_list_ref, e_tupl_tup, e_tupl_lst, e_tupl_ref, e_newT, e_newF, e_run_nm, e_run_tp, e_runs_nil, e_runs_cons, e_tru_bl, e_tru_int, e_tru_str, e_tru_lst, e_tru_tup, e_ty_str, e_ty_lst, e_ty_ref, e_append, e_insert, e_popAt, e_pop0, e_join, e_seqI_val, e_cut_str, e_cut_tup, e_cut_lst, e_cut_fz, e_cut_ref]
  refine draw_at (E := noX) put_same p2 (by omega) (by omega) (by omega) fun deep o3 d0 d1 p3 => ?_
  simp only [put_put, b_children_4, mSeq, mIfS, mAsg, mRet, mRetN, mDrop, mTest, mOp, mC, mVar, mSetI, mNext, mCB, mCons, mNil, mAndT, mOrT, mNotT, mTruT, mIf, mNeg, mOr, mAnd, mNot, mLst, mTup, mBM, mBM0, mPar, mCall, mCallK, mLstRg1, mTupRg1, mRng1, mRng2, mEnum, mZipT, mFor, mSl, mNoPart, mPart, mLc, wipeM, List.set_cons_zero, List.set_cons_succ, startM, List.map_cons, List.map_nil, List.cons_append, List.nil_append, List.length_cons, List.length_nil, List.replicate, List.getElem?_cons_zero, List.getElem?_cons_succ, Option.some.injEq, Nat.reduceSub, Nat.reduceAdd, true_and, exists_eq_left, exists_eq_left', e_ix_tup, e_ix_lst, e_ix_fz, e_ix_ref, e_lo_lst, e_lo_fz, e_lo_ref, e_so_lst, e_so_fz, e_so_tup, e_so_ref, e_hd_lst, e_hd_ref, e_add_int, e_add_str, e_add_tup, e_add_lst, e_sub_int, e_mul_int, e_mul_lst, e_mul_tup, e_mod_int, e_fdv_int, e_pow_int, e_lt_int, e_le_int, e_gt_int, e_ge_int, e_eq_int, e_ne_int, e_eq_str, e_ne_str, e_isN, e_notN, e_isN_non, e_isN_int, e_isN_tup, e_isN_str, e_isN_ref, e_isN_lst, e_abs, e_max2, e_min2, e_int_int, e_int_bl, e_str_int, e_str_str, e_str_non, e_len_str, e_len_tup, e_len_lst, e_len_fz, e_len_ref, e_list_tup, e_list_lst, e_list_fz, e_list_ref, e_tupl_tup, e_tupl_lst, e_tupl_ref, e_newT, e_newF, e_run_nm, e_run_tp, e_runs_nil, e_runs_cons, e_tru_bl, e_tru_int, e_tru_str, e_tru_lst, e_tru_tup, e_ty_str, e_ty_lst, e_ty_ref, e_append, e_insert, e_popAt, e_pop0, e_join, e_seqI_val, e_cut_str, e_cut_tup, e_cut_lst, e_cut_fz, e_cut_ref]
  refine ⟨⟨by omega, by omega⟩, rows_new (a := a) (P := IntIn r) (G := G) (by omega) ⟨o3, put_same, p3⟩ (fun b u hb e => by rw [put_ne hb]; exact e) fun as G' hl' s => ?_⟩
  simp only [b_children_5, mSeq, mIfS, mAsg, mRet, mRetN, mDrop, mTest, mOp, mC, mVar, mSetI, mNext, mCB, mCons, mNil, mAndT, mOrT, mNotT, mTruT, mIf, mNeg, mOr, mAnd, mNot, mLst, mTup, mBM, mBM0, mPar, mCall, mCallK, mLstRg1, mTupRg1, mRng1, mRng2, mEnum, mZipT, mFor, mSl, mNoPart, mPart, mLc, wipeM, List.set_cons_zero, List.set_cons_succ, startM, List.map_cons, List.map_nil, List.cons_append, List.nil_append, List.length_cons, List.length_nil, List.replicate, List.getElem?_cons_zero, List.getElem?_cons_succ, Option.some.injEq, Nat.reduceSub, Nat.reduceAdd, true_and, exists_eq_left, exists_eq_left', e_ix_tup, e_ix_lst, e_ix_fz, e_ix_ref, e_lo_lst, e_lo_fz, e_lo_ref, e_so_lst, e_so_fz, e_so_tup, e_so_ref, e_hd_lst, e_hd_ref, e_add_int, e_add_str, e_add_tup, e_add_lst, e_sub_int, e_mul_int, e_mul_lst, e_mul_tup, e_mod_int, e_fdv_int, e_pow_int, e_lt_int, e_le_int, e_gt_int, e_ge_int, e_eq_int, e_ne_int, e_eq_str, e_ne_str, e_isN, e_notN, e_isN_non, e_isN_int, e_isN_tup, e_isN_str, e_isN_ref, e_isN_lst, e_abs, e_max2, e_min2, e_int_int, e_int_bl, e_str_int, e_str_str, e_str_non, e_len_str, e_len_tup, e_len_lst, e_len_fz, e_len_ref, e_list_tup, e_list_lst, e_list_fz, e_list_ref, e_tupl_tup, e_tupl_lst, e_tupl_ref, e_newT, e_newF, e_run_nm, e_run_tp, e_runs_nil, e_runs_cons, e_tru_bl, e_tru_int, e_tru_str, e_tru_lst, e_tru_tup, e_ty_str, e_ty_lst, e_ty_ref, e_append, e_insert, e_popAt, e_pop0, e_join, e_seqI_val, e_cut_str, e_cut_tup, e_cut_lst, e_cut_fz, e_cut_ref]
  refine ⟨⟨by decide, by decide, by omega, by omega⟩, loop_ind (fun i τ G' => (∃ v6 v7 v8, τ = [some (.ref a), some (.int n), some (.int r), some (.lst (is.map D.int)), some (.int deep), some (.lst (as.map D.ref)), v6, v7, v8]) ∧ LS G a (IntIn r) i (m + 4 + r + 1 + 2 * i) as G') ?_ ?_ ⟨⟨_, _, _, rfl⟩, s⟩⟩
  · rintro i w τ G' N hw ⟨⟨v6, v7, v8, rfl⟩, s⟩ hN
    obtain ⟨hi, rfl⟩ := rng_at hw
    have hi' : i + 1 < r := by omega
    refine ⟨trivial, ?_⟩
    simp only [b_children_6, e_sp_draw, mSeq, mIfS, mAsg, mRet, mRetN, mDrop, mTest, mOp, mC, mVar, mSetI, mNext, mCB, mCons, mNil, mAndT, mOrT, mNotT, mTruT, mIf, mNeg, mOr, mAnd, mNot, mLst, mTup, mBM, mBM0, mPar, mCall, mCallK, mLstRg1, mTupRg1, mRng1, mRng2, mEnum, mZipT, mFor, mSl, mNoPart, mPart, mLc, wipeM, List.set_cons_zero, List.set_cons_succ, startM, List.map_cons, List.map_nil, List.cons_append, List.nil_append, List.length_cons, List.length_nil, List.replicate, List.getElem?_cons_zero, List.getElem?_cons_succ, Option.some.injEq, Nat.reduceSub, Nat.reduceAdd, true_and, exists_eq_left, exists_eq_left', e_ix_tup, e_ix_lst, e_ix_fz, e_ix_ref, e_lo_lst, e_lo_fz, e_lo_ref, e_so_lst, e_so_fz, e_so_tup, e_so_ref, e_hd_lst, e_hd_ref, e_add_int, e_add_str, e_add_tup, e_add_lst, e_sub_int, e_mul_int, e_mul_lst, e_mul_tup, e_mod_int, e_fdv_int, e_pow_int, e_lt_int, e_le_int, e_gt_int, e_ge_int, e_eq_int, e_ne_int, e_eq_str, e_ne_str, e_isN, e_notN, e_isN_non, e_isN_int, e_isN_tup, e_isN_str, e_isN_ref, e_isN_lst, e_abs, e_max2, e_min2, e_int_int, e_int_bl, e_str_int, e_str_str, e_str_non, e_len_str, e_len_tup, e_len_lst, e_len_fz, e_len_ref, e_list_tup, e_list_lst, e_list_fz, e_list_ref, e_tupl_tup, e_tupl_lst, e_tupl_ref, e_newT, e_newF, e_run_nm, e_run_tp, e_runs_nil, e_runs_cons, e_tru_bl, e_tru_int, e_tru_str, e_tru_lst, e_tru_tup, e_ty_str, e_ty_lst, e_ty_ref, e_append, e_insert, e_popAt, e_pop0, e_join, e_seqI_val, e_cut_str, e_cut_tup, e_cut_lst, e_cut_fz, e_cut_ref]
    obtain ⟨o', ea, p'⟩ := s.pen
    refine draw_at (E := noX) ea p' (by omega) (by omega) (by omega) fun x o2 x0 x1 p2 => ?_
    have s3 := s.draw p2
    refine ⟨by decide, ?_⟩
    have go : ∀ t : Int, 0 ≤ t → t < r → ∃ ys w, LstOf (put G' a o2) (.lst (as.map D.ref)) ys ∧ atI ys t = some w ∧ b_children_7 { nx := N, rt := less q, bk := b_children_8 { nx := fun x G' => less q D.non G', rt := less q }, ct := N } [some (.ref a), some (.int n), some (.int r), some (.lst (is.map D.int)), some (.int deep), some (.lst (as.map D.ref)), some (.int (1 + (i : Nat))), some w, v8] (put G' a o2) := by
      intro t t0 t1
      obtain ⟨b, hb, hmem⟩ := at_refs (as := as) t0 (by omega)
      refine ⟨_, _, rfl, hb, ?_⟩
      simp only [b_children_7, e_sp_draw, mSeq, mIfS, mAsg, mRet, mRetN, mDrop, mTest, mOp, mC, mVar, mSetI, mNext, mCB, mCons, mNil, mAndT, mOrT, mNotT, mTruT, mIf, mNeg, mOr, mAnd, mNot, mLst, mTup, mBM, mBM0, mPar, mCall, mCallK, mLstRg1, mTupRg1, mRng1, mRng2, mEnum, mZipT, mFor, mSl, mNoPart, mPart, mLc, wipeM, List.set_cons_zero, List.set_cons_succ, startM, List.map_cons, List.map_nil, List.cons_append, List.nil_append, List.length_cons, List.length_nil, List.replicate, List.getElem?_cons_zero, List.getElem?_cons_succ, Option.some.injEq, Nat.reduceSub, Nat.reduceAdd, true_and, exists_eq_left, exists_eq_left', e_ix_tup, e_ix_lst, e_ix_fz, e_ix_ref, e_lo_lst, e_lo_fz, e_lo_ref, e_so_lst, e_so_fz, e_so_tup, e_so_ref, e_hd_lst, e_hd_ref, e_add_int, e_add_str, e_add_tup, e_add_lst, e_sub_int, e_mul_int, e_mul_lst, e_mul_tup, e_mod_int, e_fdv_int, e_pow_int, e_lt_int, e_le_int, e_gt_int, e_ge_int, e_eq_int, e_ne_int, e_eq_str, e_ne_str, e_isN, e_notN, e_isN_non, e_isN_int, e_isN_tup, e_isN_str, e_isN_ref, e_isN_lst, e_abs, e_max2, e_min2, e_int_int, e_int_bl, e_str_int, e_str_str, e_str_non, e_len_str, e_len_tup, e_len_lst, e_len_fz, e_len_ref, e_list_tup, e_list_lst, e_list_fz, e_list_ref, e_tupl_tup, e_tupl_lst, e_tupl_ref, e_newT, e_newF, e_run_nm, e_run_tp, e_runs_nil, e_runs_cons, e_tru_bl, e_tru_int, e_tru_str, e_tru_lst, e_tru_tup, e_ty_str, e_ty_lst, e_ty_ref, e_append, e_insert, e_popAt, e_pop0, e_join, e_seqI_val, e_cut_str, e_cut_tup, e_cut_lst, e_cut_fz, e_cut_ref]
      obtain ⟨z, hz, z0, z1⟩ := at_nums iin (i := 1 + (i : Nat)) (by omega) (by omega)
      obtain ⟨row, e, rr⟩ := s3.rows b hmem
      refine ⟨⟨row, e⟩, row, e, ?_⟩
      obtain ⟨o5, ea5, p5⟩ := s3.pen
      have hl := rr.1
      refine draw_at (E := noX) ea5 p5 (by omega) (by omega) (by omega) fun k o6 k0 k1 p6 => ?_
      have nab : b ≠ a := fun z => s.na (by subst z; exact hmem)
      refine ⟨_, _, rfl, hz, row, by rw [put_ne nab]; exact e, by have := sizeLine_eq; omega, k0, by omega, hN _ _ ⟨⟨_, _, _, rfl⟩, ?_⟩⟩
      exact ((s3.draw p6).row hmem (RowOk.ins rr (x := .int z) ⟨z, rfl, z0, z1⟩ k.toNat) (Nat.le_succ _)).mono (Nat.le_refl _) (by omega)
    have hd : deep = 0 ∨ deep = 1 ∨ deep = 2 := by omega
    rcases hd with rfl | rfl | rfl
    · exact ⟨_, _, rfl, rfl, go _ (by omega) (by omega)⟩
    · exact ⟨_, _, rfl, rfl, go _ (by omega) (by omega)⟩
    · exact ⟨_, _, rfl, rfl, go _ (by omega) (by omega)⟩
  · rintro τ G' ⟨⟨v6, v7, v8, rfl⟩, s⟩
    rw [rng_len] at s
    refine ⟨trivial, ?_⟩
    simp only [b_children_8, mSeq, mIfS, mAsg, mRet, mRetN, mDrop, mTest, mOp, mC, mVar, mSetI, mNext, mCB, mCons, mNil, mAndT, mOrT, mNotT, mTruT, mIf, mNeg, mOr, mAnd, mNot, mLst, mTup, mBM, mBM0, mPar, mCall, mCallK, mLstRg1, mTupRg1, mRng1, mRng2, mEnum, mZipT, mFor, mSl, mNoPart, mPart, mLc, wipeM, List.set_cons_zero, List.set_cons_succ, startM, List.map_cons, List.map_nil, List.cons_append, List.nil_append, List.length_cons, List.length_nil, List.replicate, List.getElem?_cons_zero, List.getElem?_cons_succ, Option.some.injEq, Nat.reduceSub, Nat.reduceAdd, true_and, exists_eq_left, exists_eq_left', e_ix_tup, e_ix_lst, e_ix_fz, e_ix_ref, e_lo_lst, e_lo_fz, e_lo_ref, e_so_lst, e_so_fz, e_so_tup, e_so_ref, e_hd_lst, e_hd_ref, e_add_int, e_add_str, e_add_tup, e_add_lst, e_sub_int, e_mul_int, e_mul_lst, e_mul_tup, e_mod_int, e_fdv_int, e_pow_int, e_lt_int, e_le_int, e_gt_int, e_ge_int, e_eq_int, e_ne_int, e_eq_str, e_ne_str, e_isN, e_notN, e_isN_non, e_isN_int, e_isN_tup, e_isN_str, e_isN_ref, e_isN_lst, e_abs, e_max2, e_min2, e_int_int, e_int_bl, e_str_int, e_str_str, e_str_non, e_len_str, e_len_tup, e_len_lst, e_len_fz, e_len_ref, e_list_tup, e_list_lst, e_list_fz, e_list_ref, e_tupl_tup, e_tupl_lst, e_tupl_ref, e_newT, e_newF, e_run_nm, e_run_tp, e_runs_nil, e_runs_cons, e_tru_bl, e_tru_int, e_tru_str, e_tru_lst, e_tru_tup, e_ty_str, e_ty_lst, e_ty_ref, e_append, e_insert, e_popAt, e_pop0, e_join, e_seqI_val, e_cut_str, e_cut_tup, e_cut_lst, e_cut_fz, e_cut_ref]
    refine ⟨by decide, by decide, ⟨by omega, by omega, by have := sizeLine_eq; omega⟩, fun q1 hq1 => ?_⟩
    obtain ⟨f1, f2, f3⟩ := s.fresh hq1
    have s3 : LS G a (IntIn r) 50 (m + 200) as (put G' q1 (.lst (List.replicate ((r : Int)).toNat [D.tup []]).flatten)) := (s.mono (by omega) (by omega)).keep f1 f2 f3
    have S1 : OL G a q1 as r TreeRow (put G' q1 (.lst (List.replicate ((r : Int)).toNat [D.tup []]).flatten)) := ⟨f1, f2, f3, _, put_same, by rw [(rep_all).1]; omega, fun x hx => ⟨[], (rep_all).2 x hx, ⟨by decide, fun _ h => nomatch h⟩, fun _ h => nomatch h⟩⟩
    revert s3 S1
    generalize put G' q1 (.lst (List.replicate ((r : Int)).toNat [D.tup []]).flatten) = G4
    intro s3 S1
    simp only [b_children_9, mSeq, mIfS, mAsg, mRet, mRetN, mDrop, mTest, mOp, mC, mVar, mSetI, mNext, mCB, mCons, mNil, mAndT, mOrT, mNotT, mTruT, mIf, mNeg, mOr, mAnd, mNot, mLst, mTup, mBM, mBM0, mPar, mCall, mCallK, mLstRg1, mTupRg1, mRng1, mRng2, mEnum, mZipT, mFor, mSl, mNoPart, mPart, mLc, wipeM, List.set_cons_zero, List.set_cons_succ, startM, List.map_cons, List.map_nil, List.cons_append, List.nil_append, List.length_cons, List.length_nil, List.replicate, List.getElem?_cons_zero, List.getElem?_cons_succ, Option.some.injEq, Nat.reduceSub, Nat.reduceAdd, true_and, exists_eq_left, exists_eq_left', e_ix_tup, e_ix_lst, e_ix_fz, e_ix_ref, e_lo_lst, e_lo_fz, e_lo_ref, e_so_lst, e_so_fz, e_so_tup, e_so_ref, e_hd_lst, e_hd_ref, e_add_int, e_add_str, e_add_tup, e_add_lst, e_sub_int, e_mul_int, e_mul_lst, e_mul_tup, e_mod_int, e_fdv_int, e_pow_int, e_lt_int, e_le_int, e_gt_int, e_ge_int, e_eq_int, e_ne_int, e_eq_str, e_ne_str, e_isN, e_notN, e_isN_non, e_isN_int, e_isN_tup, e_isN_str, e_isN_ref, e_isN_lst, e_abs, e_max2, e_min2, e_int_int, e_int_bl, e_str_int, e_str_str, e_str_non, e_len_str, e_len_tup, e_len_lst, e_len_fz, e_len_ref, e_list_tup, e_list_lst, e_list_fz, e_list_ref, e_tupl_tup, e_tupl_lst, e_tupl_ref, e_newT, e_newF, e_run_nm, e_run_tp, e_runs_nil, e_runs_cons, e_tru_bl, e_tru_int, e_tru_str, e_tru_lst, e_tru_tup, e_ty_str, e_ty_lst, e_ty_ref, e_append, e_insert, e_popAt, e_pop0, e_join, e_seqI_val, e_cut_str, e_cut_tup, e_cut_lst, e_cut_fz, e_cut_ref]
    refine ⟨⟨by omega, by omega⟩, loop_ind (fun i τ G' => (∃ v6, τ = [some (.ref a), some (.int n), some (.int r), some (.lst (is.map D.int)), some (.int deep), some (.lst (as.map D.ref)), v6, v7, some (.ref q1)]) ∧ LS G a (IntIn r) 50 (m + 200) as G' ∧ OL G a q1 as r TreeRow G') ?_ ?_ ⟨⟨_, rfl⟩, s3, S1⟩⟩
    · rintro i w τ G' N hw ⟨⟨v6, rfl⟩, s, S1⟩ hN
      obtain ⟨hi, rfl⟩ := rng_at hw
      have hi' : i < r := by simpa using hi
      refine ⟨trivial, ?_⟩
      simp only [b_children_10, mSeq, mIfS, mAsg, mRet, mRetN, mDrop, mTest, mOp, mC, mVar, mSetI, mNext, mCB, mCons, mNil, mAndT, mOrT, mNotT, mTruT, mIf, mNeg, mOr, mAnd, mNot, mLst, mTup, mBM, mBM0, mPar, mCall, mCallK, mLstRg1, mTupRg1, mRng1, mRng2, mEnum, mZipT, mFor, mSl, mNoPart, mPart, mLc, wipeM, List.set_cons_zero, List.set_cons_succ, startM, List.map_cons, List.map_nil, List.cons_append, List.nil_append, List.length_cons, List.length_nil, List.replicate, List.getElem?_cons_zero, List.getElem?_cons_succ, Option.some.injEq, Nat.reduceSub, Nat.reduceAdd, true_and, exists_eq_left, exists_eq_left', e_ix_tup, e_ix_lst, e_ix_fz, e_ix_ref, e_lo_lst, e_lo_fz, e_lo_ref, e_so_lst, e_so_fz, e_so_tup, e_so_ref, e_hd_lst, e_hd_ref, e_add_int, e_add_str, e_add_tup, e_add_lst, e_sub_int, e_mul_int, e_mul_lst, e_mul_tup, e_mod_int, e_fdv_int, e_pow_int, e_lt_int, e_le_int, e_gt_int, e_ge_int, e_eq_int, e_ne_int, e_eq_str, e_ne_str, e_isN, e_notN, e_isN_non, e_isN_int, e_isN_tup, e_isN_str, e_isN_ref, e_isN_lst, e_abs, e_max2, e_min2, e_int_int, e_int_bl, e_str_int, e_str_str, e_str_non, e_len_str, e_len_tup, e_len_lst, e_len_fz, e_len_ref, e_list_tup, e_list_lst, e_list_fz, e_list_ref, e_tupl_tup, e_tupl_lst, e_tupl_ref, e_newT, e_newF, e_run_nm, e_run_tp, e_runs_nil, e_runs_cons, e_tru_bl, e_tru_int, e_tru_str, e_tru_lst, e_tru_tup, e_ty_str, e_ty_lst, e_ty_ref, e_append, e_insert, e_popAt, e_pop0, e_join, e_seqI_val, e_cut_str, e_cut_tup, e_cut_lst, e_cut_fz, e_cut_ref]
      obtain ⟨b, hb, hmem⟩ := at_refs (as := as) (i := 0 + (i : Nat)) (by omega) (by omega)
      refine ⟨_, _, rfl, hb, ?_⟩
      obtain ⟨row, e, rr⟩ := s.rows b hmem
      simp only [mSeq, mIfS, mAsg, mRet, mRetN, mDrop, mTest, mOp, mC, mVar, mSetI, mNext, mCB, mCons, mNil, mAndT, mOrT, mNotT, mTruT, mIf, mNeg, mOr, mAnd, mNot, mLst, mTup, mBM, mBM0, mPar, mCall, mCallK, mLstRg1, mTupRg1, mRng1, mRng2, mEnum, mZipT, mFor, mSl, mNoPart, mPart, mLc, wipeM, List.set_cons_zero, List.set_cons_succ, startM, List.map_cons, List.map_nil, List.cons_append, List.nil_append, List.length_cons, List.length_nil, List.replicate, List.getElem?_cons_zero, List.getElem?_cons_succ, Option.some.injEq, Nat.reduceSub, Nat.reduceAdd, true_and, exists_eq_left, exists_eq_left', e_ix_tup, e_ix_lst, e_ix_fz, e_ix_ref, e_lo_lst, e_lo_fz, e_lo_ref, e_so_lst, e_so_fz, e_so_tup, e_so_ref, e_hd_lst, e_hd_ref, e_add_int, e_add_str, e_add_tup, e_add_lst, e_sub_int, e_mul_int, e_mul_lst, e_mul_tup, e_mod_int, e_fdv_int, e_pow_int, e_lt_int, e_le_int, e_gt_int, e_ge_int, e_eq_int, e_ne_int, e_eq_str, e_ne_str, e_isN, e_notN, e_isN_non, e_isN_int, e_isN_tup, e_isN_str, e_isN_ref, e_isN_lst, e_abs, e_max2, e_min2, e_int_int, e_int_bl, e_str_int, e_str_str, e_str_non, e_len_str, e_len_tup, e_len_lst, e_len_fz, e_len_ref, e_list_tup, e_list_lst, e_list_fz, e_list_ref, e_tupl_tup, e_tupl_lst, e_tupl_ref, e_newT, e_newF, e_run_nm, e_run_tp, e_runs_nil, e_runs_cons, e_tru_bl, e_tru_int, e_tru_str, e_tru_lst, e_tru_tup, e_ty_str, e_ty_lst, e_ty_ref, e_append, e_insert, e_popAt, e_pop0, e_join, e_seqI_val, e_cut_str, e_cut_tup, e_cut_lst, e_cut_fz, e_cut_ref]
      obtain ⟨z, hz, z0, z1⟩ := at_nums iin (i := 0 + (i : Nat)) (by omega) (by omega)
      refine ⟨row, e, _, _, rfl, hz, ?_⟩
      obtain ⟨sl, es, ls, als⟩ := S1.s
      have tr : TreeRow (.tup row) := ⟨row, rfl, ⟨by have := rr.1; omega, fun y hy => by obtain ⟨j, rfl, j0, j1⟩ := rr.2 y hy; exact ⟨j, rfl, j0, by omega⟩⟩, fun y hy => by obtain ⟨j, rfl, j0, j1⟩ := rr.2 y hy; exact ⟨j, rfl, j0, by omega⟩⟩
      exact ⟨sl, z.toNat, es, ixN_in z0 (by omega), hN _ _ ⟨⟨_, rfl⟩, s.keep S1.na S1.nm S1.g, S1.set es tr _⟩⟩
    · rintro τ G' ⟨⟨v6, rfl⟩, s, S1⟩
      refine ⟨trivial, ?_⟩
      simp only [b_children_11, mSeq, mIfS, mAsg, mRet, mRetN, mDrop, mTest, mOp, mC, mVar, mSetI, mNext, mCB, mCons, mNil, mAndT, mOrT, mNotT, mTruT, mIf, mNeg, mOr, mAnd, mNot, mLst, mTup, mBM, mBM0, mPar, mCall, mCallK, mLstRg1, mTupRg1, mRng1, mRng2, mEnum, mZipT, mFor, mSl, mNoPart, mPart, mLc, wipeM, List.set_cons_zero, List.set_cons_succ, startM, List.map_cons, List.map_nil, List.cons_append, List.nil_append, List.length_cons, List.length_nil, List.replicate, List.getElem?_cons_zero, List.getElem?_cons_succ, Option.some.injEq, Nat.reduceSub, Nat.reduceAdd, true_and, exists_eq_left, exists_eq_left', e_ix_tup, e_ix_lst, e_ix_fz, e_ix_ref, e_lo_lst, e_lo_fz, e_lo_ref, e_so_lst, e_so_fz, e_so_tup, e_so_ref, e_hd_lst, e_hd_ref, e_add_int, e_add_str, e_add_tup, e_add_lst, e_sub_int, e_mul_int, e_mul_lst, e_mul_tup, e_mod_int, e_fdv_int, e_pow_int, e_lt_int, e_le_int, e_gt_int, e_ge_int, e_eq_int, e_ne_int, e_eq_str, e_ne_str, e_isN, e_notN, e_isN_non, e_isN_int, e_isN_tup, e_isN_str, e_isN_ref, e_isN_lst, e_abs, e_max2, e_min2, e_int_int, e_int_bl, e_str_int, e_str_str, e_str_non, e_len_str, e_len_tup, e_len_lst, e_len_fz, e_len_ref, e_list_tup, e_list_lst, e_list_fz, e_list_ref, e_tupl_tup, e_tupl_lst, e_tupl_ref, e_newT, e_newF, e_run_nm, e_run_tp, e_runs_nil, e_runs_cons, e_tru_bl, e_tru_int, e_tru_str, e_tru_lst, e_tru_tup, e_ty_str, e_ty_lst, e_ty_ref, e_append, e_insert, e_popAt, e_pop0, e_join, e_seqI_val, e_cut_str, e_cut_tup, e_cut_lst, e_cut_fz, e_cut_ref]
      obtain ⟨sl, es, ls, als⟩ := S1.s
      obtain ⟨o7, ea7, p7⟩ := s.pen
      exact ⟨sl, es, less_of (s.fin ea7) (kq _ o7 ⟨sl, rfl, by omega, als⟩ (p7.mono (by omega)))⟩
end Q81

set_option maxRecDepth 100000
namespace Q81
open PySem PySem.Spec L2 ML
open PyProof.Rows hiding St
/-! ### texts -/
theorem str_assoc (a b c : Str) : a ++ b ++ c = a ++ (b ++ c) := by
  show Str.mk (a.cps ++ b.cps ++ c.cps) = Str.mk (a.cps ++ (b.cps ++ c.cps))
  rw [Array.append_assoc]
theorem join_fold (a : Str) : ∀ (ys : List Str) (x : Str), Txt.join a (x :: ys) = ys.foldl (fun acc y => acc ++ a ++ y) x := by
  have key : ∀ (r : List Str) (s t : Str), r.foldl (fun acc y => acc ++ a ++ y) (s ++ t) = s ++ r.foldl (fun acc y => acc ++ a ++ y) t := by
    intro r
    induction r with
    | nil => intro s t; rfl
    | cons y r ih => intro s t; rw [List.foldl_cons, List.foldl_cons, ← ih, str_assoc, str_assoc, str_assoc]
  intro ys
  induction ys with
  | nil => intro x; rw [join_eq]; rfl
  | cons y r ih =>
    intro x
    have h := ih y
    rw [join_eq] at h ⊢
    show x ++ a ++ Str.join a (y :: r) = _
    rw [h, List.foldl_cons, key]
theorem len_app (a b : Str) : (a ++ b).length = a.length + b.length := PySem.strLen_append a b
theorem join_pos {a x : Str} {r : List Str} (h : 0 < x.length) : 0 < (Txt.join a (x :: r)).length := by
  rw [join_fold]
  induction r generalizing x with
  | nil => exact h
  | cons y r ih => rw [List.foldl_cons]; exact ih (by rw [len_app, len_app]; omega)
/-- what is written of it is short -/
def Wr (x : D) : Prop := (cell x).length ≤ 31 ∧ PyData.strOk (cell x) = true
theorem wr_non : Wr .non := ⟨by show (("-" : Str)).length ≤ 31; decide, by show PyData.strOk "-" = true; decide +kernel⟩
theorem wr_int {i : Int} (h0 : 0 ≤ i) (h1 : i ≤ 10 ^ 30) : Wr (.int i) := ⟨int_len h0 h1, sok_int i⟩
theorem wr_ref {n : Nat} (hn : n ≤ 1000) {x : D} (h : RefOk n x) : Wr x := by
  rcases h with rfl | ⟨i, rfl, a, b⟩
  · exact wr_non
  · exact wr_int a (by omega)
theorem wr_num {x : D} (h : NumOk x) : Wr x := by obtain ⟨i, rfl, a, b⟩ := h; exact wr_int a b
theorem wr_out {x : D} (h : OutOk x) : Wr x := by obtain ⟨i, rfl, a, b⟩ := h; exact wr_int a (by omega)
theorem wr_sum {xs : List D} (h : ∀ x ∈ xs, Wr x) : ((xs.map cell).map (·.length)).sum ≤ xs.length * 31 := by
  have := sum_le (f := fun y : Str => y.length) (n := 31) (xs := xs.map cell) fun y hy => by obtain ⟨x, hx, rfl⟩ := List.mem_map.mp hy; exact (h x hx).1
  rwa [List.length_map] at this
theorem strs_cells (xs : List D) (f : D → Str) : strsOf (xs.map fun x => D.str (f x)) = some (xs.map f) := by
  rw [show (xs.map fun x => D.str (f x)) = (xs.map f).map D.str by rw [List.map_map]; rfl, strsOf_map]
theorem join_short {a : Str} {xs : List D} {n : Nat} (h : ∀ x ∈ xs, Wr x) (hn : xs.length ≤ n) (ha : a.length = 1) : (Txt.join a (xs.map cell)).length ≤ n * 32 := by
  have h1 := join_len (a := a) (ys := xs.map cell) (n := 31) fun y hy => by obtain ⟨x, hx, rfl⟩ := List.mem_map.mp hy; exact (h x hx).1
  rw [List.length_map, ha] at h1
  exact Nat.le_trans h1 (Nat.mul_le_mul_right _ hn)
theorem join_sok {a : Str} {xs : List D} (h : ∀ x ∈ xs, Wr x) (ha : PyData.strOk a = true) : PyData.strOk (Txt.join a (xs.map cell)) = true :=
  sok_join ha fun y hy => by obtain ⟨x, hx, rfl⟩ := List.mem_map.mp hy; exact (h x hx).2
theorem sp_len : ((" " : Str)).length = 1 := by decide
theorem nl_len : (("\n" : Str)).length = 1 := by decide
theorem sp_ok : PyData.strOk " " = true := by decide +kernel
theorem nl_ok : PyData.strOk "\n" = true := by decide +kernel
theorem da_ok : PyData.strOk "-" = true := by decide +kernel
theorem fr_ok : PyData.strOk "free" = true := by decide +kernel
/-- a text of at most n signs -/
def Tx (n : Nat) (z : Str) : Prop := z.length ≤ n ∧ PyData.strOk z = true
theorem tx_nums {xs : List D} (h : NumsOk xs) : Tx 3000 (numsT xs) := by
  unfold numsT
  have hw : ∀ x ∈ xs, Wr x := fun x hx => wr_num (h.2 x hx)
  split
  · exact ⟨by decide, da_ok⟩
  · exact ⟨Nat.le_trans (join_short hw h.1 sp_len) (by decide), join_sok hw sp_ok⟩
theorem tx_line {x y : D} (h : SlotOk x) (hy : OutOk y) : Tx 3000 (lineT x y) := by
  rcases h with rfl | ⟨row, rfl, h⟩
  · exact ⟨by show (("free" : Str)).length ≤ 3000; decide, fr_ok⟩
  · have hw : ∀ x ∈ y :: row, Wr x := fun x hx => by
      rcases List.mem_cons.mp hx with rfl | hx
      · exact wr_out hy
      · exact wr_ref (by decide) (h.2 x hx)
    have hl : (y :: row).length ≤ 91 := by rw [List.length_cons]; have := h.1; omega
    exact ⟨Nat.le_trans (join_short (a := " ") hw hl sp_len) (by decide), join_sok (a := " ") hw sp_ok⟩
theorem mem_zip {slots outs : List D} {z : Str} (h : z ∈ List.zipWith lineT slots outs) : ∃ x y, x ∈ slots ∧ y ∈ outs ∧ z = lineT x y := by
  obtain ⟨i, hi, rfl⟩ := List.mem_iff_getElem.mp h
  rw [List.getElem_zipWith]
  exact ⟨_, _, List.getElem_mem _, List.getElem_mem _, rfl⟩
theorem big_join {ys : List Str} (h : ∀ y ∈ ys, Tx 3000 y) (hl : ys.length ≤ 90) : Tx 300000 (Txt.join "\n" ys) ∧ (ys.map (·.length)).sum + ys.length * (("\n" : Str)).length ≤ 16777216 := by
  have h1 := join_len (a := "\n") (n := 3000) fun y hy => (h y hy).1
  have h2 := sum_le (f := fun y : Str => y.length) (n := 3000) fun y hy => (h y hy).1
  rw [nl_len] at h1 ⊢
  have h3 : ys.length * 3000 ≤ 90 * 3000 := Nat.mul_le_mul_right _ hl
  have h4 : ys.length * (3000 + 1) ≤ 90 * (3000 + 1) := Nat.mul_le_mul_right _ hl
  exact ⟨⟨by omega, sok_join nl_ok fun y hy => (h y hy).2⟩, by omega⟩
theorem heap_lines {slots outs : List D} (h : HeapOk slots outs) : (∀ y ∈ List.zipWith lineT slots outs, Tx 3000 y) ∧ (List.zipWith lineT slots outs).length = slots.length := by
  refine ⟨fun y hy => ?_, by rw [List.length_zipWith, h.1, Nat.min_self]⟩
  obtain ⟨x, z, hx, hz, rfl⟩ := mem_zip hy
  exact tx_line (h.2.2.1 x hx) (h.2.2.2 z hz)
theorem tree_lines {rows : List D} (h : TreeOk (.tup rows)) : (∀ y ∈ rows.map numsR, Tx 3000 y) ∧ rows.length ≤ 90 ∧ ∀ r ∈ rows, ∃ row, r = .tup row ∧ NumsOk row := by
  obtain ⟨rows', e, hl, hr⟩ := h
  cases e
  refine ⟨fun y hy => ?_, hl, fun r hr' => let ⟨row, e, hn, _⟩ := hr r hr'; ⟨row, e, hn⟩⟩
  obtain ⟨r, hr', rfl⟩ := List.mem_map.mp hy
  obtain ⟨row, rfl, hn, _⟩ := hr r hr'
  exact tx_nums hn
theorem nums_join {xs : List D} (h : NumsOk xs) : ((xs.map cell).map (·.length)).sum + (xs.map cell).length * ((" " : Str)).length ≤ 16777216 := by
  have h1 := wr_sum fun x hx => wr_num (h.2 x hx)
  have h2 : xs.length * 31 ≤ 90 * 31 := Nat.mul_le_mul_right _ h.1
  rw [List.length_map, sp_len]; have := h.1; omega

theorem law_joined (x0 : D) (G : Gp) (q : MK) (h : p_joined x0 G q) : b_joined { nx := fun _ G' => less q .non G', rt := less q } (startM ["numbers", "number"] [x0]) G := by
  obtain ⟨xs, hx, hn, hq⟩ := h
  have core : mComp (fun _ => True) (.nm 1) mYes (mCB mStr (mCons (mVar 1) mNil)) (wipeM [some x0, none] [1]) xs [] G fun acc G2 => newL false acc G2 fun x G3 => ∃ ys us, SeqOf G3 x ys ∧ strsOf ys = some us ∧ (us.map (·.length)).sum + us.length * ((" " : Str)).length ≤ 16777216 ∧
      ((Txt.join " " us).length ≤ sizeLine ∧ match ((Txt.join " " us).length : Int) != 0 with | true => less q (.str (Txt.join " " us)) G3 | false => less q (.str "-") G3) := by
    refine comp_map (fun x => .str (cell x)) (by have := hn.1; have := sizeLine_eq; omega) trivial (fun w r hw hr => ?_) ?_
    · obtain ⟨i, rfl, i0, i1⟩ := hn.2 w hw
      simp only [mSeq, mIfS, mAsg, mRet, mRetN, mDrop, mTest, mOp, mC, mVar, mSetI, mNext, mCB, mCons, mNil, mAndT, mOrT, mNotT, mTruT, mIf, mNeg, mOr, mAnd, mNot, mLst, mTup, mBM, mBM0, mPar, mCall, mCallK, mLstRg1, mTupRg1, mRng1, mRng2, mEnum, mZipT, mFor, mSl, mNoPart, mPart, mLc, wipeM, List.set_cons_zero, List.set_cons_succ, startM, List.map_cons, List.map_nil, List.cons_append, List.nil_append, List.length_cons, List.length_nil, List.replicate, List.getElem?_cons_zero, List.getElem?_cons_succ, Option.some.injEq, Nat.reduceSub, Nat.reduceAdd, true_and, exists_eq_left, exists_eq_left', e_ix_tup, e_ix_lst, e_ix_fz, e_ix_ref, e_lo_lst, e_lo_fz, e_lo_ref, e_so_lst, e_so_fz, e_so_tup, e_so_ref, e_hd_lst, e_hd_ref, e_add_int, e_add_str, e_add_tup, e_add_lst, e_sub_int, e_mul_int, e_mul_lst, e_mul_tup, e_mod_int, e_fdv_int, e_pow_int, e_lt_int, e_le_int, e_gt_int, e_ge_int, e_eq_int, e_ne_int, e_eq_str, e_ne_str, e_isN, e_notN, e_isN_non, e_isN_int, e_isN_tup, e_isN_str, e_isN_ref, e_isN_lst, e_abs, e_max2, e_min2, e_int_int, e_int_bl, e_str_int, e_str_str, e_str_non, e_len_str, e_len_tup, e_len_lst, e_len_fz, e_len_ref, e_list_tup, e_list_lst, e_list_fz, e_list_ref, e_tupl_tup, e_tupl_lst, e_tupl_ref, e_newT, e_newF, e_run_nm, e_run_tp, e_runs_nil, e_runs_cons, e_tru_bl, e_tru_int, e_tru_str, e_tru_lst, e_tru_tup, e_ty_str, e_ty_lst, e_ty_ref, e_append, e_insert, e_popAt, e_pop0, e_join, e_seqI_val, e_cut_str, e_cut_tup, e_cut_lst, e_cut_fz, e_cut_ref]
      exact ⟨int_log i0 i1, hr⟩
    · refine ⟨_, _, rfl, strs_cells xs cell, nums_join hn, ?_, ?_⟩
      · exact Nat.le_trans (join_short (fun x hx => wr_num (hn.2 x hx)) hn.1 sp_len) (by rw [sizeLine_eq]; decide)
      · unfold numsT at hq
        cases xs with
        | nil =>
          rw [if_pos rfl] at hq
          have e : ((((Txt.join " " (List.map cell [])).length : Nat) : Int) != 0) = false := by rw [join_eq]; rfl
          rw [e]; exact less_here hq
        | cons x r =>
          rw [if_neg (by simp)] at hq
          obtain ⟨i, rfl, _, _⟩ := hn.2 x List.mem_cons_self
          have hp : 0 < (Txt.join " " ((D.int i :: r).map cell)).length := join_pos (int_pos i)
          have e : ((((Txt.join " " ((D.int i :: r).map cell)).length : Nat) : Int) != 0) = true := by
            rw [bne_iff_ne]; omega
          rw [e]; exact less_here hq
  rcases hx with rfl | rfl
  · simp only [b_joined, mSeq, mIfS, mAsg, mRet, mRetN, mDrop, mTest, mOp, mC, mVar, mSetI, mNext, mCB, mCons, mNil, mAndT, mOrT, mNotT, mTruT, mIf, mNeg, mOr, mAnd, mNot, mLst, mTup, mBM, mBM0, mPar, mCall, mCallK, mLstRg1, mTupRg1, mRng1, mRng2, mEnum, mZipT, mFor, mSl, mNoPart, mPart, mLc, wipeM, List.set_cons_zero, List.set_cons_succ, startM, List.map_cons, List.map_nil, List.cons_append, List.nil_append, List.length_cons, List.length_nil, List.replicate, List.getElem?_cons_zero, List.getElem?_cons_succ, Option.some.injEq, Nat.reduceSub, Nat.reduceAdd, true_and, exists_eq_left, exists_eq_left', e_ix_tup, e_ix_lst, e_ix_fz, e_ix_ref, e_lo_lst, e_lo_fz, e_lo_ref, e_so_lst, e_so_fz, e_so_tup, e_so_ref, e_hd_lst, e_hd_ref, e_add_int, e_add_str, e_add_tup, e_add_lst, e_sub_int, e_mul_int, e_mul_lst, e_mul_tup, e_mod_int, e_fdv_int, e_pow_int, e_lt_int, e_le_int, e_gt_int, e_ge_int, e_eq_int, e_ne_int, e_eq_str, e_ne_str, e_isN, e_notN, e_isN_non, e_isN_int, e_isN_tup, e_isN_str, e_isN_ref, e_isN_lst, e_abs, e_max2, e_min2, e_int_int, e_int_bl, e_str_int, e_str_str, e_str_non, e_len_str, e_len_tup, e_len_lst, e_len_fz, e_len_ref, e_list_tup, e_list_lst, e_list_fz, e_list_ref, e_tupl_tup, e_tupl_lst, e_tupl_ref, e_newT, e_newF, e_run_nm, e_run_tp, e_runs_nil, e_runs_cons, e_tru_bl, e_tru_int, e_tru_str, e_tru_lst, e_tru_tup, e_ty_str, e_ty_lst, e_ty_ref, e_append, e_insert, e_popAt, e_pop0, e_join, e_seqI_val, e_cut_str, e_cut_tup, e_cut_lst, e_cut_fz, e_cut_ref]
    exact core
  · simp only [b_joined, mSeq, mIfS, mAsg, mRet, mRetN, mDrop, mTest, mOp, mC, mVar, mSetI, mNext, mCB, mCons, mNil, mAndT, mOrT, mNotT, mTruT, mIf, mNeg, mOr, mAnd, mNot, mLst, mTup, mBM, mBM0, mPar, mCall, mCallK, mLstRg1, mTupRg1, mRng1, mRng2, mEnum, mZipT, mFor, mSl, mNoPart, mPart, mLc, wipeM, List.set_cons_zero, List.set_cons_succ, startM, List.map_cons, List.map_nil, List.cons_append, List.nil_append, List.length_cons, List.length_nil, List.replicate, List.getElem?_cons_zero, List.getElem?_cons_succ, Option.some.injEq, Nat.reduceSub, Nat.reduceAdd, true_and, exists_eq_left, exists_eq_left', e_ix_tup, e_ix_lst, e_ix_fz, e_ix_ref, e_lo_lst, e_lo_fz, e_lo_ref, e_so_lst, e_so_fz, e_so_tup, e_so_ref, e_hd_lst, e_hd_ref, e_add_int, e_add_str, e_add_tup, e_add_lst, e_sub_int, e_mul_int, e_mul_lst, e_mul_tup, e_mod_int, e_fdv_int, e_pow_int, e_lt_int, e_le_int, e_gt_int, e_ge_int, e_eq_int, e_ne_int, e_eq_str, e_ne_str, e_isN, e_notN, e_isN_non, e_isN_int, e_isN_tup, e_isN_str, e_isN_ref, e_isN_lst, e_abs, e_max2, e_min2, e_int_int, e_int_bl, e_str_int, e_str_str, e_str_non, e_len_str, e_len_tup, e_len_lst, e_len_fz, e_len_ref, e_list_tup, e_list_lst, e_list_fz, e_list_ref, e_tupl_tup, e_tupl_lst, e_tupl_ref, e_newT, e_newF, e_run_nm, e_run_tp, e_runs_nil, e_runs_cons, e_tru_bl, e_tru_int, e_tru_str, e_tru_lst, e_tru_tup, e_ty_str, e_ty_lst, e_ty_ref, e_append, e_insert, e_popAt, e_pop0, e_join, e_seqI_val, e_cut_str, e_cut_tup, e_cut_lst, e_cut_fz, e_cut_ref]
    exact core
theorem law_numbers_text (x0 : D) (G : Gp) (q : MK) (h : p_numbers_text x0 G q) : b_numbers_text { nx := fun _ G' => less q .non G', rt := less q } (startM ["_law_some", "_law_k"] [x0]) G := by
  obtain ⟨xs, hx, hn, hq⟩ := h
  have core : xs ≠ [] → mComp (fun _ => True) (.nm 1) mYes (mCB mStr (mCons (mVar 1) mNil)) (wipeM [some x0, none] [1]) xs [] G fun acc G2 => newL false acc G2 fun x G3 => ∃ ys us, SeqOf G3 x ys ∧ strsOf ys = some us ∧ (us.map (·.length)).sum + us.length * ((" " : Str)).length ≤ 16777216 ∧ less q (.str (Txt.join " " us)) G3 := by
    intro hne
    refine comp_map (fun x => .str (cell x)) (by have := hn.1; have := sizeLine_eq; omega) trivial (fun w r hw hr => ?_) ?_
    · obtain ⟨i, rfl, i0, i1⟩ := hn.2 w hw
      simp only [mSeq, mIfS, mAsg, mRet, mRetN, mDrop, mTest, mOp, mC, mVar, mSetI, mNext, mCB, mCons, mNil, mAndT, mOrT, mNotT, mTruT, mIf, mNeg, mOr, mAnd, mNot, mLst, mTup, mBM, mBM0, mPar, mCall, mCallK, mLstRg1, mTupRg1, mRng1, mRng2, mEnum, mZipT, mFor, mSl, mNoPart, mPart, mLc, wipeM, List.set_cons_zero, List.set_cons_succ, startM, List.map_cons, List.map_nil, List.cons_append, List.nil_append, List.length_cons, List.length_nil, List.replicate, List.getElem?_cons_zero, List.getElem?_cons_succ, Option.some.injEq, Nat.reduceSub, Nat.reduceAdd, true_and, exists_eq_left, exists_eq_left', e_ix_tup, e_ix_lst, e_ix_fz, e_ix_ref, e_lo_lst, e_lo_fz, e_lo_ref, e_so_lst, e_so_fz, e_so_tup, e_so_ref, e_hd_lst, e_hd_ref, e_add_int, e_add_str, e_add_tup, e_add_lst, e_sub_int, e_mul_int, e_mul_lst, e_mul_tup, e_mod_int, e_fdv_int, e_pow_int, e_lt_int, e_le_int, e_gt_int, e_ge_int, e_eq_int, e_ne_int, e_eq_str, e_ne_str, e_isN, e_notN, e_isN_non, e_isN_int, e_isN_tup, e_isN_str, e_isN_ref, e_isN_lst, e_abs, e_max2, e_min2, e_int_int, e_int_bl, e_str_int, e_str_str, e_str_non, e_len_str, e_len_tup, e_len_lst, e_len_fz, e_len_ref, e_list_tup, e_list_lst, e_list_fz, e_list_ref, e_tupl_tup, e_tupl_lst, e_tupl_ref, e_newT, e_newF, e_run_nm, e_run_tp, e_runs_nil, e_runs_cons, e_tru_bl, e_tru_int, e_tru_str, e_tru_lst, e_tru_tup, e_ty_str, e_ty_lst, e_ty_ref, e_append, e_insert, e_popAt, e_pop0, e_join, e_seqI_val, e_cut_str, e_cut_tup, e_cut_lst, e_cut_fz, e_cut_ref]
      exact ⟨int_log i0 i1, hr⟩
    · refine ⟨_, _, rfl, strs_cells xs cell, nums_join hn, ?_⟩
      unfold numsT at hq
      rw [if_neg hne] at hq
      exact less_here hq
  have fin : xs = [] → less q (.str "-") G := fun e => by
    unfold numsT at hq
    rw [if_pos e] at hq
    exact less_here hq
  have hz : ((xs.length : Int) = 0) = (xs = []) := by
    apply propext
    rw [← List.length_eq_zero_iff]; omega
  rcases hx with rfl | rfl
  · simp only [b_numbers_text, b_numbers_text_2, b_numbers_text_3, mSeq, mIfS, mAsg, mRet, mRetN, mDrop, mTest, mOp, mC, mVar, mSetI, mNext, mCB, mCons, mNil, mAndT, mOrT, mNotT, mTruT, mIf, mNeg, mOr, mAnd, mNot, mLst, mTup, mBM, mBM0, mPar, mCall, mCallK, mLstRg1, mTupRg1, mRng1, mRng2, mEnum, mZipT, mFor, mSl, mNoPart, mPart, mLc, wipeM, List.set_cons_zero, List.set_cons_succ, startM, List.map_cons, List.map_nil, List.cons_append, List.nil_append, List.length_cons, List.length_nil, List.replicate, List.getElem?_cons_zero, List.getElem?_cons_succ, Option.some.injEq, Nat.reduceSub, Nat.reduceAdd, true_and, exists_eq_left, exists_eq_left', e_ix_tup, e_ix_lst, e_ix_fz, e_ix_ref, e_lo_lst, e_lo_fz, e_lo_ref, e_so_lst, e_so_fz, e_so_tup, e_so_ref, e_hd_lst, e_hd_ref, e_add_int, e_add_str, e_add_tup, e_add_lst, e_sub_int, e_mul_int, e_mul_lst, e_mul_tup, e_mod_int, e_fdv_int, e_pow_int, e_lt_int, e_le_int, e_gt_int, e_ge_int, e_eq_int, e_ne_int, e_eq_str, e_ne_str, e_isN, e_notN, e_isN_non, e_isN_int, e_isN_tup, e_isN_str, e_isN_ref, e_isN_lst, e_abs, e_max2, e_min2, e_int_int, e_int_bl, e_str_int, e_str_str, e_str_non, e_len_str, e_len_tup, e_len_lst, e_len_fz, e_len_ref, e_list_tup, e_list_lst, e_list_fz, e_list_ref, e_tupl_tup, e_tupl_lst, e_tupl_ref, e_newT, e_newF, e_run_nm, e_run_tp, e_runs_nil, e_runs_cons, e_tru_bl, e_tru_int, e_tru_str, e_tru_lst, e_tru_tup, e_ty_str, e_ty_lst, e_ty_ref, e_append, e_insert, e_popAt, e_pop0, e_join, e_seqI_val, e_cut_str, e_cut_tup, e_cut_lst, e_cut_fz, e_cut_ref, hz]
    by_cases he : xs = []
    · simp only [he, decide_true]; exact fin he
    · simp only [he, decide_false]; exact core he
  · simp only [b_numbers_text, b_numbers_text_2, b_numbers_text_3, mSeq, mIfS, mAsg, mRet, mRetN, mDrop, mTest, mOp, mC, mVar, mSetI, mNext, mCB, mCons, mNil, mAndT, mOrT, mNotT, mTruT, mIf, mNeg, mOr, mAnd, mNot, mLst, mTup, mBM, mBM0, mPar, mCall, mCallK, mLstRg1, mTupRg1, mRng1, mRng2, mEnum, mZipT, mFor, mSl, mNoPart, mPart, mLc, wipeM, List.set_cons_zero, List.set_cons_succ, startM, List.map_cons, List.map_nil, List.cons_append, List.nil_append, List.length_cons, List.length_nil, List.replicate, List.getElem?_cons_zero, List.getElem?_cons_succ, Option.some.injEq, Nat.reduceSub, Nat.reduceAdd, true_and, exists_eq_left, exists_eq_left', e_ix_tup, e_ix_lst, e_ix_fz, e_ix_ref, e_lo_lst, e_lo_fz, e_lo_ref, e_so_lst, e_so_fz, e_so_tup, e_so_ref, e_hd_lst, e_hd_ref, e_add_int, e_add_str, e_add_tup, e_add_lst, e_sub_int, e_mul_int, e_mul_lst, e_mul_tup, e_mod_int, e_fdv_int, e_pow_int, e_lt_int, e_le_int, e_gt_int, e_ge_int, e_eq_int, e_ne_int, e_eq_str, e_ne_str, e_isN, e_notN, e_isN_non, e_isN_int, e_isN_tup, e_isN_str, e_isN_ref, e_isN_lst, e_abs, e_max2, e_min2, e_int_int, e_int_bl, e_str_int, e_str_str, e_str_non, e_len_str, e_len_tup, e_len_lst, e_len_fz, e_len_ref, e_list_tup, e_list_lst, e_list_fz, e_list_ref, e_tupl_tup, e_tupl_lst, e_tupl_ref, e_newT, e_newF, e_run_nm, e_run_tp, e_runs_nil, e_runs_cons, e_tru_bl, e_tru_int, e_tru_str, e_tru_lst, e_tru_tup, e_ty_str, e_ty_lst, e_ty_ref, e_append, e_insert, e_popAt, e_pop0, e_join, e_seqI_val, e_cut_str, e_cut_tup, e_cut_lst, e_cut_fz, e_cut_ref, hz]
    by_cases he : xs = []
    · simp only [he, decide_true]; exact fin he
    · simp only [he, decide_false]; exact core he
theorem law_line_of (x0 x1 : D) (G : Gp) (q : MK) (h : p_line_of x0 x1 G q) : b_line_of { nx := fun _ G' => less q .non G', rt := less q } (startM ["row", "references", "held"] [x0, x1]) G := by
  obtain ⟨hs, ⟨j, rfl, j0, j1⟩, hq⟩ := h
  rcases hs with rfl | ⟨row, rfl, hr⟩
  · simp only [b_line_of, b_line_of_2, mSeq, mIfS, mAsg, mRet, mRetN, mDrop, mTest, mOp, mC, mVar, mSetI, mNext, mCB, mCons, mNil, mAndT, mOrT, mNotT, mTruT, mIf, mNeg, mOr, mAnd, mNot, mLst, mTup, mBM, mBM0, mPar, mCall, mCallK, mLstRg1, mTupRg1, mRng1, mRng2, mEnum, mZipT, mFor, mSl, mNoPart, mPart, mLc, wipeM, List.set_cons_zero, List.set_cons_succ, startM, List.map_cons, List.map_nil, List.cons_append, List.nil_append, List.length_cons, List.length_nil, List.replicate, List.getElem?_cons_zero, List.getElem?_cons_succ, Option.some.injEq, Nat.reduceSub, Nat.reduceAdd, true_and, exists_eq_left, exists_eq_left', e_ix_tup, e_ix_lst, e_ix_fz, e_ix_ref, e_lo_lst, e_lo_fz, e_lo_ref, e_so_lst, e_so_fz, e_so_tup, e_so_ref, e_hd_lst, e_hd_ref, e_add_int, e_add_str, e_add_tup, e_add_lst, e_sub_int, e_mul_int, e_mul_lst, e_mul_tup, e_mod_int, e_fdv_int, e_pow_int, e_lt_int, e_le_int, e_gt_int, e_ge_int, e_eq_int, e_ne_int, e_eq_str, e_ne_str, e_isN, e_notN, e_isN_non, e_isN_int, e_isN_tup, e_isN_str, e_isN_ref, e_isN_lst, e_abs, e_max2, e_min2, e_int_int, e_int_bl, e_str_int, e_str_str, e_str_non, e_len_str, e_len_tup, e_len_lst, e_len_fz, e_len_ref, e_list_tup, e_list_lst, e_list_fz, e_list_ref, e_tupl_tup, e_tupl_lst, e_tupl_ref, e_newT, e_newF, e_run_nm, e_run_tp, e_runs_nil, e_runs_cons, e_tru_bl, e_tru_int, e_tru_str, e_tru_lst, e_tru_tup, e_ty_str, e_ty_lst, e_ty_ref, e_append, e_insert, e_popAt, e_pop0, e_join, e_seqI_val, e_cut_str, e_cut_tup, e_cut_lst, e_cut_fz, e_cut_ref]
    exact less_here hq
  · simp only [b_line_of, b_line_of_3, mSeq, mIfS, mAsg, mRet, mRetN, mDrop, mTest, mOp, mC, mVar, mSetI, mNext, mCB, mCons, mNil, mAndT, mOrT, mNotT, mTruT, mIf, mNeg, mOr, mAnd, mNot, mLst, mTup, mBM, mBM0, mPar, mCall, mCallK, mLstRg1, mTupRg1, mRng1, mRng2, mEnum, mZipT, mFor, mSl, mNoPart, mPart, mLc, wipeM, List.set_cons_zero, List.set_cons_succ, startM, List.map_cons, List.map_nil, List.cons_append, List.nil_append, List.length_cons, List.length_nil, List.replicate, List.getElem?_cons_zero, List.getElem?_cons_succ, Option.some.injEq, Nat.reduceSub, Nat.reduceAdd, true_and, exists_eq_left, exists_eq_left', e_ix_tup, e_ix_lst, e_ix_fz, e_ix_ref, e_lo_lst, e_lo_fz, e_lo_ref, e_so_lst, e_so_fz, e_so_tup, e_so_ref, e_hd_lst, e_hd_ref, e_add_int, e_add_str, e_add_tup, e_add_lst, e_sub_int, e_mul_int, e_mul_lst, e_mul_tup, e_mod_int, e_fdv_int, e_pow_int, e_lt_int, e_le_int, e_gt_int, e_ge_int, e_eq_int, e_ne_int, e_eq_str, e_ne_str, e_isN, e_notN, e_isN_non, e_isN_int, e_isN_tup, e_isN_str, e_isN_ref, e_isN_lst, e_abs, e_max2, e_min2, e_int_int, e_int_bl, e_str_int, e_str_str, e_str_non, e_len_str, e_len_tup, e_len_lst, e_len_fz, e_len_ref, e_list_tup, e_list_lst, e_list_fz, e_list_ref, e_tupl_tup, e_tupl_lst, e_tupl_ref, e_newT, e_newF, e_run_nm, e_run_tp, e_runs_nil, e_runs_cons, e_tru_bl, e_tru_int, e_tru_str, e_tru_lst, e_tru_tup, e_ty_str, e_ty_lst, e_ty_ref, e_append, e_insert, e_popAt, e_pop0, e_join, e_seqI_val, e_cut_str, e_cut_tup, e_cut_lst, e_cut_fz, e_cut_ref]
    have hl := hr.1
    refine ⟨int_log j0 (by omega), by decide, comp_map (fun x => .str (cell x)) (by have := sizeLine_eq; omega) trivial (fun w r hw hr' => ?_) ?_⟩
    · rcases hr.2 w hw with rfl | ⟨i, rfl, i0, i1⟩
      · simp only [mSeq, mIfS, mAsg, mRet, mRetN, mDrop, mTest, mOp, mC, mVar, mSetI, mNext, mCB, mCons, mNil, mAndT, mOrT, mNotT, mTruT, mIf, mNeg, mOr, mAnd, mNot, mLst, mTup, mBM, mBM0, mPar, mCall, mCallK, mLstRg1, mTupRg1, mRng1, mRng2, mEnum, mZipT, mFor, mSl, mNoPart, mPart, mLc, wipeM, List.set_cons_zero, List.set_cons_succ, startM, List.map_cons, List.map_nil, List.cons_append, List.nil_append, List.length_cons, List.length_nil, List.replicate, List.getElem?_cons_zero, List.getElem?_cons_succ, Option.some.injEq, Nat.reduceSub, Nat.reduceAdd, true_and, exists_eq_left, exists_eq_left', e_ix_tup, e_ix_lst, e_ix_fz, e_ix_ref, e_lo_lst, e_lo_fz, e_lo_ref, e_so_lst, e_so_fz, e_so_tup, e_so_ref, e_hd_lst, e_hd_ref, e_add_int, e_add_str, e_add_tup, e_add_lst, e_sub_int, e_mul_int, e_mul_lst, e_mul_tup, e_mod_int, e_fdv_int, e_pow_int, e_lt_int, e_le_int, e_gt_int, e_ge_int, e_eq_int, e_ne_int, e_eq_str, e_ne_str, e_isN, e_notN, e_isN_non, e_isN_int, e_isN_tup, e_isN_str, e_isN_ref, e_isN_lst, e_abs, e_max2, e_min2, e_int_int, e_int_bl, e_str_int, e_str_str, e_str_non, e_len_str, e_len_tup, e_len_lst, e_len_fz, e_len_ref, e_list_tup, e_list_lst, e_list_fz, e_list_ref, e_tupl_tup, e_tupl_lst, e_tupl_ref, e_newT, e_newF, e_run_nm, e_run_tp, e_runs_nil, e_runs_cons, e_tru_bl, e_tru_int, e_tru_str, e_tru_lst, e_tru_tup, e_ty_str, e_ty_lst, e_ty_ref, e_append, e_insert, e_popAt, e_pop0, e_join, e_seqI_val, e_cut_str, e_cut_tup, e_cut_lst, e_cut_fz, e_cut_ref]; exact hr'
      · simp only [mSeq, mIfS, mAsg, mRet, mRetN, mDrop, mTest, mOp, mC, mVar, mSetI, mNext, mCB, mCons, mNil, mAndT, mOrT, mNotT, mTruT, mIf, mNeg, mOr, mAnd, mNot, mLst, mTup, mBM, mBM0, mPar, mCall, mCallK, mLstRg1, mTupRg1, mRng1, mRng2, mEnum, mZipT, mFor, mSl, mNoPart, mPart, mLc, wipeM, List.set_cons_zero, List.set_cons_succ, startM, List.map_cons, List.map_nil, List.cons_append, List.nil_append, List.length_cons, List.length_nil, List.replicate, List.getElem?_cons_zero, List.getElem?_cons_succ, Option.some.injEq, Nat.reduceSub, Nat.reduceAdd, true_and, exists_eq_left, exists_eq_left', e_ix_tup, e_ix_lst, e_ix_fz, e_ix_ref, e_lo_lst, e_lo_fz, e_lo_ref, e_so_lst, e_so_fz, e_so_tup, e_so_ref, e_hd_lst, e_hd_ref, e_add_int, e_add_str, e_add_tup, e_add_lst, e_sub_int, e_mul_int, e_mul_lst, e_mul_tup, e_mod_int, e_fdv_int, e_pow_int, e_lt_int, e_le_int, e_gt_int, e_ge_int, e_eq_int, e_ne_int, e_eq_str, e_ne_str, e_isN, e_notN, e_isN_non, e_isN_int, e_isN_tup, e_isN_str, e_isN_ref, e_isN_lst, e_abs, e_max2, e_min2, e_int_int, e_int_bl, e_str_int, e_str_str, e_str_non, e_len_str, e_len_tup, e_len_lst, e_len_fz, e_len_ref, e_list_tup, e_list_lst, e_list_fz, e_list_ref, e_tupl_tup, e_tupl_lst, e_tupl_ref, e_newT, e_newF, e_run_nm, e_run_tp, e_runs_nil, e_runs_cons, e_tru_bl, e_tru_int, e_tru_str, e_tru_lst, e_tru_tup, e_ty_str, e_ty_lst, e_ty_ref, e_append, e_insert, e_popAt, e_pop0, e_join, e_seqI_val, e_cut_str, e_cut_tup, e_cut_lst, e_cut_fz, e_cut_ref]; exact ⟨int_log i0 (by omega), hr'⟩
    · have hw : ∀ x ∈ D.int j :: row, Wr x := fun x hx => by
        rcases List.mem_cons.mp hx with rfl | hx
        · exact wr_int j0 (by omega)
        · exact wr_ref (by decide) (hr.2 x hx)
      have e := strs_cells (D.int j :: row) cell
      refine ⟨_, _, rfl, rfl, by rw [List.length_map, List.length_singleton]; have := sizeLine_eq; omega, _, _, rfl, e, ?_, less_here hq⟩
      have h1 := wr_sum hw
      have h2 : (D.int j :: row).length * 31 ≤ 91 * 31 := Nat.mul_le_mul_right _ (by rw [List.length_cons]; omega)
      rw [List.length_map, sp_len, List.length_cons]
      rw [List.length_cons] at h1 h2
      omega
end Q81

set_option maxRecDepth 100000
namespace Q81
open PySem PySem.Spec L2 ML
open PyProof.Rows hiding St
def lineW (w : D) : D := match w with
  | .tup [s, o] => .str (lineT s o)
  | _ => .non
theorem map_zip (slots outs : List D) : (zipD slots outs).map lineW = (List.zipWith lineT slots outs).map D.str := by
  unfold zipD
  rw [List.map_zipWith, List.map_zipWith]; rfl
theorem law_format_heap (x0 : D) (G : Gp) (q : MK) (h : p_format_heap x0 G q) : b_format_heap { nx := fun _ G' => less q .non G', rt := less q } (startM ["heap", "slots", "outside", "row", "references"] [x0]) G := by
  obtain ⟨slots, outs, rfl, hh, hq⟩ := h
  simp only [b_format_heap, b_format_heap_2, mSeq, mIfS, mAsg, mRet, mRetN, mDrop, mTest, mOp, mC, mVar, mSetI, mNext, mCB, mCons, mNil, mAndT, mOrT, mNotT, mTruT, mIf, mNeg, mOr, mAnd, mNot, mLst, mTup, mBM, mBM0, mPar, mCall, mCallK, mLstRg1, mTupRg1, mRng1, mRng2, mEnum, mZipT, mFor, mSl, mNoPart, mPart, mLc, wipeM, List.set_cons_zero, List.set_cons_succ, startM, List.map_cons, List.map_nil, List.cons_append, List.nil_append, List.length_cons, List.length_nil, List.replicate, List.getElem?_cons_zero, List.getElem?_cons_succ, Option.some.injEq, Nat.reduceSub, Nat.reduceAdd, true_and, exists_eq_left, exists_eq_left', e_ix_tup, e_ix_lst, e_ix_fz, e_ix_ref, e_lo_lst, e_lo_fz, e_lo_ref, e_so_lst, e_so_fz, e_so_tup, e_so_ref, e_hd_lst, e_hd_ref, e_add_int, e_add_str, e_add_tup, e_add_lst, e_sub_int, e_mul_int, e_mul_lst, e_mul_tup, e_mod_int, e_fdv_int, e_pow_int, e_lt_int, e_le_int, e_gt_int, e_ge_int, e_eq_int, e_ne_int, e_eq_str, e_ne_str, e_isN, e_notN, e_isN_non, e_isN_int, e_isN_tup, e_isN_str, e_isN_ref, e_isN_lst, e_abs, e_max2, e_min2, e_int_int, e_int_bl, e_str_int, e_str_str, e_str_non, e_len_str, e_len_tup, e_len_lst, e_len_fz, e_len_ref, e_list_tup, e_list_lst, e_list_fz, e_list_ref, e_tupl_tup, e_tupl_lst, e_tupl_ref, e_newT, e_newF, e_run_nm, e_run_tp, e_runs_nil, e_runs_cons, e_tru_bl, e_tru_int, e_tru_str, e_tru_lst, e_tru_tup, e_ty_str, e_ty_lst, e_ty_ref, e_append, e_insert, e_popAt, e_pop0, e_join, e_seqI_val, e_cut_str, e_cut_tup, e_cut_lst, e_cut_fz, e_cut_ref]
  have hl := hh.2.1
  refine comp_map lineW (by rw [zipD_len]; have := sizeLine_eq; omega) trivial (fun w r hw hr => ?_) ?_
  · obtain ⟨i, hi, rfl⟩ := List.mem_iff_getElem.mp hw
    obtain ⟨x, y, hx, hy, e⟩ := zipD_get (List.getElem?_eq_getElem hi)
    rw [e] at hr ⊢
    simp only [e_sp_line_of, mSeq, mIfS, mAsg, mRet, mRetN, mDrop, mTest, mOp, mC, mVar, mSetI, mNext, mCB, mCons, mNil, mAndT, mOrT, mNotT, mTruT, mIf, mNeg, mOr, mAnd, mNot, mLst, mTup, mBM, mBM0, mPar, mCall, mCallK, mLstRg1, mTupRg1, mRng1, mRng2, mEnum, mZipT, mFor, mSl, mNoPart, mPart, mLc, wipeM, List.set_cons_zero, List.set_cons_succ, startM, List.map_cons, List.map_nil, List.cons_append, List.nil_append, List.length_cons, List.length_nil, List.replicate, List.getElem?_cons_zero, List.getElem?_cons_succ, Option.some.injEq, Nat.reduceSub, Nat.reduceAdd, true_and, exists_eq_left, exists_eq_left', e_ix_tup, e_ix_lst, e_ix_fz, e_ix_ref, e_lo_lst, e_lo_fz, e_lo_ref, e_so_lst, e_so_fz, e_so_tup, e_so_ref, e_hd_lst, e_hd_ref, e_add_int, e_add_str, e_add_tup, e_add_lst, e_sub_int, e_mul_int, e_mul_lst, e_mul_tup, e_mod_int, e_fdv_int, e_pow_int, e_lt_int, e_le_int, e_gt_int, e_ge_int, e_eq_int, e_ne_int, e_eq_str, e_ne_str, e_isN, e_notN, e_isN_non, e_isN_int, e_isN_tup, e_isN_str, e_isN_ref, e_isN_lst, e_abs, e_max2, e_min2, e_int_int, e_int_bl, e_str_int, e_str_str, e_str_non, e_len_str, e_len_tup, e_len_lst, e_len_fz, e_len_ref, e_list_tup, e_list_lst, e_list_fz, e_list_ref, e_tupl_tup, e_tupl_lst, e_tupl_ref, e_newT, e_newF, e_run_nm, e_run_tp, e_runs_nil, e_runs_cons, e_tru_bl, e_tru_int, e_tru_str, e_tru_lst, e_tru_tup, e_ty_str, e_ty_lst, e_ty_ref, e_append, e_insert, e_popAt, e_pop0, e_join, e_seqI_val, e_cut_str, e_cut_tup, e_cut_lst, e_cut_fz, e_cut_ref]
    exact ⟨hh.2.2.1 x (List.mem_of_getElem? hx), hh.2.2.2 y (List.mem_of_getElem? hy), hr⟩
  · rw [map_zip]
    obtain ⟨h1, h2⟩ := heap_lines hh
    exact ⟨_, _, rfl, strsOf_map _, (big_join h1 (by omega)).2, less_here hq⟩
def numsW (r : D) : D := .str (numsR r)
theorem map_nums (rows : List D) : rows.map numsW = (rows.map numsR).map D.str := by rw [List.map_map]; rfl
theorem law_format_tree (x0 : D) (G : Gp) (q : MK) (h : p_format_tree x0 G q) : b_format_tree { nx := fun _ G' => less q .non G', rt := less q } (startM ["tree", "children"] [x0]) G := by
  obtain ⟨rows, rfl, ht, hq⟩ := h
  obtain ⟨h1, hl, hr⟩ := tree_lines ht
  simp only [b_format_tree, mSeq, mIfS, mAsg, mRet, mRetN, mDrop, mTest, mOp, mC, mVar, mSetI, mNext, mCB, mCons, mNil, mAndT, mOrT, mNotT, mTruT, mIf, mNeg, mOr, mAnd, mNot, mLst, mTup, mBM, mBM0, mPar, mCall, mCallK, mLstRg1, mTupRg1, mRng1, mRng2, mEnum, mZipT, mFor, mSl, mNoPart, mPart, mLc, wipeM, List.set_cons_zero, List.set_cons_succ, startM, List.map_cons, List.map_nil, List.cons_append, List.nil_append, List.length_cons, List.length_nil, List.replicate, List.getElem?_cons_zero, List.getElem?_cons_succ, Option.some.injEq, Nat.reduceSub, Nat.reduceAdd, true_and, exists_eq_left, exists_eq_left', e_ix_tup, e_ix_lst, e_ix_fz, e_ix_ref, e_lo_lst, e_lo_fz, e_lo_ref, e_so_lst, e_so_fz, e_so_tup, e_so_ref, e_hd_lst, e_hd_ref, e_add_int, e_add_str, e_add_tup, e_add_lst, e_sub_int, e_mul_int, e_mul_lst, e_mul_tup, e_mod_int, e_fdv_int, e_pow_int, e_lt_int, e_le_int, e_gt_int, e_ge_int, e_eq_int, e_ne_int, e_eq_str, e_ne_str, e_isN, e_notN, e_isN_non, e_isN_int, e_isN_tup, e_isN_str, e_isN_ref, e_isN_lst, e_abs, e_max2, e_min2, e_int_int, e_int_bl, e_str_int, e_str_str, e_str_non, e_len_str, e_len_tup, e_len_lst, e_len_fz, e_len_ref, e_list_tup, e_list_lst, e_list_fz, e_list_ref, e_tupl_tup, e_tupl_lst, e_tupl_ref, e_newT, e_newF, e_run_nm, e_run_tp, e_runs_nil, e_runs_cons, e_tru_bl, e_tru_int, e_tru_str, e_tru_lst, e_tru_tup, e_ty_str, e_ty_lst, e_ty_ref, e_append, e_insert, e_popAt, e_pop0, e_join, e_seqI_val, e_cut_str, e_cut_tup, e_cut_lst, e_cut_fz, e_cut_ref]
  refine comp_map numsW (by have := sizeLine_eq; omega) trivial (fun w r hw hr' => ?_) ?_
  · obtain ⟨row, rfl, hn⟩ := hr w hw
    simp only [e_sp_joined, mSeq, mIfS, mAsg, mRet, mRetN, mDrop, mTest, mOp, mC, mVar, mSetI, mNext, mCB, mCons, mNil, mAndT, mOrT, mNotT, mTruT, mIf, mNeg, mOr, mAnd, mNot, mLst, mTup, mBM, mBM0, mPar, mCall, mCallK, mLstRg1, mTupRg1, mRng1, mRng2, mEnum, mZipT, mFor, mSl, mNoPart, mPart, mLc, wipeM, List.set_cons_zero, List.set_cons_succ, startM, List.map_cons, List.map_nil, List.cons_append, List.nil_append, List.length_cons, List.length_nil, List.replicate, List.getElem?_cons_zero, List.getElem?_cons_succ, Option.some.injEq, Nat.reduceSub, Nat.reduceAdd, true_and, exists_eq_left, exists_eq_left', e_ix_tup, e_ix_lst, e_ix_fz, e_ix_ref, e_lo_lst, e_lo_fz, e_lo_ref, e_so_lst, e_so_fz, e_so_tup, e_so_ref, e_hd_lst, e_hd_ref, e_add_int, e_add_str, e_add_tup, e_add_lst, e_sub_int, e_mul_int, e_mul_lst, e_mul_tup, e_mod_int, e_fdv_int, e_pow_int, e_lt_int, e_le_int, e_gt_int, e_ge_int, e_eq_int, e_ne_int, e_eq_str, e_ne_str, e_isN, e_notN, e_isN_non, e_isN_int, e_isN_tup, e_isN_str, e_isN_ref, e_isN_lst, e_abs, e_max2, e_min2, e_int_int, e_int_bl, e_str_int, e_str_str, e_str_non, e_len_str, e_len_tup, e_len_lst, e_len_fz, e_len_ref, e_list_tup, e_list_lst, e_list_fz, e_list_ref, e_tupl_tup, e_tupl_lst, e_tupl_ref, e_newT, e_newF, e_run_nm, e_run_tp, e_runs_nil, e_runs_cons, e_tru_bl, e_tru_int, e_tru_str, e_tru_lst, e_tru_tup, e_ty_str, e_ty_lst, e_ty_ref, e_append, e_insert, e_popAt, e_pop0, e_join, e_seqI_val, e_cut_str, e_cut_tup, e_cut_lst, e_cut_fz, e_cut_ref]
    exact ⟨row, .inl rfl, hn, hr'⟩
  · rw [map_nums]
    exact ⟨_, _, rfl, strsOf_map _, (big_join h1 (by rw [List.length_map]; exact hl)).2, less_here hq⟩
theorem law_tree_text (x0 : D) (G : Gp) (q : MK) (h : p_tree_text x0 G q) : b_tree_text { nx := fun _ G' => less q .non G', rt := less q } (startM ["_law_given", "_law_row"] [x0]) G := by
  obtain ⟨rows, rfl, ht, hq⟩ := h
  obtain ⟨h1, hl, hr⟩ := tree_lines ht
  simp only [b_tree_text, mSeq, mIfS, mAsg, mRet, mRetN, mDrop, mTest, mOp, mC, mVar, mSetI, mNext, mCB, mCons, mNil, mAndT, mOrT, mNotT, mTruT, mIf, mNeg, mOr, mAnd, mNot, mLst, mTup, mBM, mBM0, mPar, mCall, mCallK, mLstRg1, mTupRg1, mRng1, mRng2, mEnum, mZipT, mFor, mSl, mNoPart, mPart, mLc, wipeM, List.set_cons_zero, List.set_cons_succ, startM, List.map_cons, List.map_nil, List.cons_append, List.nil_append, List.length_cons, List.length_nil, List.replicate, List.getElem?_cons_zero, List.getElem?_cons_succ, Option.some.injEq, Nat.reduceSub, Nat.reduceAdd, true_and, exists_eq_left, exists_eq_left', e_ix_tup, e_ix_lst, e_ix_fz, e_ix_ref, e_lo_lst, e_lo_fz, e_lo_ref, e_so_lst, e_so_fz, e_so_tup, e_so_ref, e_hd_lst, e_hd_ref, e_add_int, e_add_str, e_add_tup, e_add_lst, e_sub_int, e_mul_int, e_mul_lst, e_mul_tup, e_mod_int, e_fdv_int, e_pow_int, e_lt_int, e_le_int, e_gt_int, e_ge_int, e_eq_int, e_ne_int, e_eq_str, e_ne_str, e_isN, e_notN, e_isN_non, e_isN_int, e_isN_tup, e_isN_str, e_isN_ref, e_isN_lst, e_abs, e_max2, e_min2, e_int_int, e_int_bl, e_str_int, e_str_str, e_str_non, e_len_str, e_len_tup, e_len_lst, e_len_fz, e_len_ref, e_list_tup, e_list_lst, e_list_fz, e_list_ref, e_tupl_tup, e_tupl_lst, e_tupl_ref, e_newT, e_newF, e_run_nm, e_run_tp, e_runs_nil, e_runs_cons, e_tru_bl, e_tru_int, e_tru_str, e_tru_lst, e_tru_tup, e_ty_str, e_ty_lst, e_ty_ref, e_append, e_insert, e_popAt, e_pop0, e_join, e_seqI_val, e_cut_str, e_cut_tup, e_cut_lst, e_cut_fz, e_cut_ref]
  refine comp_map numsW (by have := sizeLine_eq; omega) trivial (fun w r hw hr' => ?_) ?_
  · obtain ⟨row, rfl, hn⟩ := hr w hw
    simp only [e_sp_numbers_text, mSeq, mIfS, mAsg, mRet, mRetN, mDrop, mTest, mOp, mC, mVar, mSetI, mNext, mCB, mCons, mNil, mAndT, mOrT, mNotT, mTruT, mIf, mNeg, mOr, mAnd, mNot, mLst, mTup, mBM, mBM0, mPar, mCall, mCallK, mLstRg1, mTupRg1, mRng1, mRng2, mEnum, mZipT, mFor, mSl, mNoPart, mPart, mLc, wipeM, List.set_cons_zero, List.set_cons_succ, startM, List.map_cons, List.map_nil, List.cons_append, List.nil_append, List.length_cons, List.length_nil, List.replicate, List.getElem?_cons_zero, List.getElem?_cons_succ, Option.some.injEq, Nat.reduceSub, Nat.reduceAdd, true_and, exists_eq_left, exists_eq_left', e_ix_tup, e_ix_lst, e_ix_fz, e_ix_ref, e_lo_lst, e_lo_fz, e_lo_ref, e_so_lst, e_so_fz, e_so_tup, e_so_ref, e_hd_lst, e_hd_ref, e_add_int, e_add_str, e_add_tup, e_add_lst, e_sub_int, e_mul_int, e_mul_lst, e_mul_tup, e_mod_int, e_fdv_int, e_pow_int, e_lt_int, e_le_int, e_gt_int, e_ge_int, e_eq_int, e_ne_int, e_eq_str, e_ne_str, e_isN, e_notN, e_isN_non, e_isN_int, e_isN_tup, e_isN_str, e_isN_ref, e_isN_lst, e_abs, e_max2, e_min2, e_int_int, e_int_bl, e_str_int, e_str_str, e_str_non, e_len_str, e_len_tup, e_len_lst, e_len_fz, e_len_ref, e_list_tup, e_list_lst, e_list_fz, e_list_ref, e_tupl_tup, e_tupl_lst, e_tupl_ref, e_newT, e_newF, e_run_nm, e_run_tp, e_runs_nil, e_runs_cons, e_tru_bl, e_tru_int, e_tru_str, e_tru_lst, e_tru_tup, e_ty_str, e_ty_lst, e_ty_ref, e_append, e_insert, e_popAt, e_pop0, e_join, e_seqI_val, e_cut_str, e_cut_tup, e_cut_lst, e_cut_fz, e_cut_ref]
    exact ⟨row, .inl rfl, hn, hr'⟩
  · rw [map_nums]
    exact ⟨_, _, rfl, strsOf_map _, (big_join h1 (by rw [List.length_map]; exact hl)).2, less_here hq⟩
theorem law_format_log (x0 : D) (G : Gp) (q : MK) (h : p_format_log x0 G q) : b_format_log { nx := fun _ G' => less q .non G', rt := less q } (startM ["log"] [x0]) G := by
  obtain ⟨xs, hx, hn, hq⟩ := h
  simp only [b_format_log, e_sp_joined, mSeq, mIfS, mAsg, mRet, mRetN, mDrop, mTest, mOp, mC, mVar, mSetI, mNext, mCB, mCons, mNil, mAndT, mOrT, mNotT, mTruT, mIf, mNeg, mOr, mAnd, mNot, mLst, mTup, mBM, mBM0, mPar, mCall, mCallK, mLstRg1, mTupRg1, mRng1, mRng2, mEnum, mZipT, mFor, mSl, mNoPart, mPart, mLc, wipeM, List.set_cons_zero, List.set_cons_succ, startM, List.map_cons, List.map_nil, List.cons_append, List.nil_append, List.length_cons, List.length_nil, List.replicate, List.getElem?_cons_zero, List.getElem?_cons_succ, Option.some.injEq, Nat.reduceSub, Nat.reduceAdd, true_and, exists_eq_left, exists_eq_left', e_ix_tup, e_ix_lst, e_ix_fz, e_ix_ref, e_lo_lst, e_lo_fz, e_lo_ref, e_so_lst, e_so_fz, e_so_tup, e_so_ref, e_hd_lst, e_hd_ref, e_add_int, e_add_str, e_add_tup, e_add_lst, e_sub_int, e_mul_int, e_mul_lst, e_mul_tup, e_mod_int, e_fdv_int, e_pow_int, e_lt_int, e_le_int, e_gt_int, e_ge_int, e_eq_int, e_ne_int, e_eq_str, e_ne_str, e_isN, e_notN, e_isN_non, e_isN_int, e_isN_tup, e_isN_str, e_isN_ref, e_isN_lst, e_abs, e_max2, e_min2, e_int_int, e_int_bl, e_str_int, e_str_str, e_str_non, e_len_str, e_len_tup, e_len_lst, e_len_fz, e_len_ref, e_list_tup, e_list_lst, e_list_fz, e_list_ref, e_tupl_tup, e_tupl_lst, e_tupl_ref, e_newT, e_newF, e_run_nm, e_run_tp, e_runs_nil, e_runs_cons, e_tru_bl, e_tru_int, e_tru_str, e_tru_lst, e_tru_tup, e_ty_str, e_ty_lst, e_ty_ref, e_append, e_insert, e_popAt, e_pop0, e_join, e_seqI_val, e_cut_str, e_cut_tup, e_cut_lst, e_cut_fz, e_cut_ref]
  exact ⟨xs, hx, hn, less_here hq⟩
/-- the law's own line -/
def lineP (out : D) (l : List D) : Str := (l.map cell).foldl (fun acc y => acc ++ " " ++ y) (cell out)
theorem lineP_len {out : D} {l : List D} (ho : Wr out) (h : ∀ x ∈ l, Wr x) : (lineP out l).length ≤ 31 + l.length * 32 := by
  unfold lineP
  rw [← join_fold]
  have := join_short (a := " ") (xs := out :: l) (n := l.length + 1) (fun x hx => by
    rcases List.mem_cons.mp hx with rfl | hx
    · exact ho
    · exact h x hx) (by simp) sp_len
  rw [List.map_cons] at this
  have h2 := StrLaws.join_length_le " " (cell out :: l.map cell)
  rw [← join_eq] at h2
  have h3 := wr_sum (xs := out :: l) (fun x hx => by
    rcases List.mem_cons.mp hx with rfl | hx
    · exact ho
    · exact h x hx)
  rw [List.map_cons, List.map_cons, List.sum_cons, List.length_cons] at h3
  rw [List.map_cons, List.sum_cons, List.length_cons, sp_len, List.length_map] at h2
  have e : (fun x : Str => x.length) = Str.length := rfl
  rw [e] at h2 h3
  -- the first one has no sign ahead of it
  have h4 : (Txt.join " " (cell out :: l.map cell)).length ≤ (cell out).length + l.length * 32 := by
    rw [join_fold]
    clear h2 h3 this
    have key : ∀ (l : List D) (s : Str), (∀ x ∈ l, Wr x) → ((l.map cell).foldl (fun (acc y : Str) => acc ++ (" " : Str) ++ y) s).length ≤ s.length + l.length * 32 := by
      intro l
      induction l with
      | nil => intro s _; simp
      | cons x r ih =>
        intro s h
        rw [List.map_cons, List.foldl_cons]
        have := ih (s ++ " " ++ cell x) fun y hy => h y (List.mem_cons_of_mem _ hy)
        rw [len_app, len_app, sp_len] at this
        have := (h x List.mem_cons_self).1
        rw [List.length_cons]; omega
    exact key l _ h
  have := ho.1
  omega
theorem lineP_step (out : D) (l : List D) (x : D) : lineP out (l ++ [x]) = lineP out l ++ " " ++ cell x := by
  unfold lineP
  rw [List.map_append, List.foldl_append]; rfl
theorem lineP_all (out : D) (row : List D) : lineP out row = lineT (.tup row) out := by
  show _ = Txt.join " " (cell out :: row.map cell)
  rw [join_fold]; rfl
theorem take_next {l : List D} {i : Nat} {x : D} (h : l[i]? = some x) : l.take (i + 1) = l.take i ++ [x] := by
  rw [List.take_add_one, h]; rfl
theorem law_heap_text (x0 : D) (G : Gp) (q : MK) (h : p_heap_text x0 G q) : b_heap_text { nx := fun _ G' => less q .non G', rt := less q } (startM ["_law_home", "_law_lines", "_law_v", "_law_row", "_law_line", "_law_held"] [x0]) G := by
  obtain ⟨slots, outs, rfl, hh, hq⟩ := h
  simp only [b_heap_text, b_heap_text_2, mSeq, mIfS, mAsg, mRet, mRetN, mDrop, mTest, mOp, mC, mVar, mSetI, mNext, mCB, mCons, mNil, mAndT, mOrT, mNotT, mTruT, mIf, mNeg, mOr, mAnd, mNot, mLst, mTup, mBM, mBM0, mPar, mCall, mCallK, mLstRg1, mTupRg1, mRng1, mRng2, mEnum, mZipT, mFor, mSl, mNoPart, mPart, mLc, wipeM, List.set_cons_zero, List.set_cons_succ, startM, List.map_cons, List.map_nil, List.cons_append, List.nil_append, List.length_cons, List.length_nil, List.replicate, List.getElem?_cons_zero, List.getElem?_cons_succ, Option.some.injEq, Nat.reduceSub, Nat.reduceAdd, true_and, exists_eq_left, exists_eq_left', e_ix_tup, e_ix_lst, e_ix_fz, e_ix_ref, e_lo_lst, e_lo_fz, e_lo_ref, e_so_lst, e_so_fz, e_so_tup, e_so_ref, e_hd_lst, e_hd_ref, e_add_int, e_add_str, e_add_tup, e_add_lst, e_sub_int, e_mul_int, e_mul_lst, e_mul_tup, e_mod_int, e_fdv_int, e_pow_int, e_lt_int, e_le_int, e_gt_int, e_ge_int, e_eq_int, e_ne_int, e_eq_str, e_ne_str, e_isN, e_notN, e_isN_non, e_isN_int, e_isN_tup, e_isN_str, e_isN_ref, e_isN_lst, e_abs, e_max2, e_min2, e_int_int, e_int_bl, e_str_int, e_str_str, e_str_non, e_len_str, e_len_tup, e_len_lst, e_len_fz, e_len_ref, e_list_tup, e_list_lst, e_list_fz, e_list_ref, e_tupl_tup, e_tupl_lst, e_tupl_ref, e_newT, e_newF, e_run_nm, e_run_tp, e_runs_nil, e_runs_cons, e_tru_bl, e_tru_int, e_tru_str, e_tru_lst, e_tru_tup, e_ty_str, e_ty_lst, e_ty_ref, e_append, e_insert, e_popAt, e_pop0, e_join, e_seqI_val, e_cut_str, e_cut_tup, e_cut_lst, e_cut_fz, e_cut_ref]
  obtain ⟨h1, h2⟩ := heap_lines hh
  have hl := hh.2.1
  have hlo := hh.1
  refine ⟨Nat.zero_le _, fun p hp => ⟨_, rfl, ?_⟩⟩
  simp only [mSeq, mIfS, mAsg, mRet, mRetN, mDrop, mTest, mOp, mC, mVar, mSetI, mNext, mCB, mCons, mNil, mAndT, mOrT, mNotT, mTruT, mIf, mNeg, mOr, mAnd, mNot, mLst, mTup, mBM, mBM0, mPar, mCall, mCallK, mLstRg1, mTupRg1, mRng1, mRng2, mEnum, mZipT, mFor, mSl, mNoPart, mPart, mLc, wipeM, List.set_cons_zero, List.set_cons_succ, startM, List.map_cons, List.map_nil, List.cons_append, List.nil_append, List.length_cons, List.length_nil, List.replicate, List.getElem?_cons_zero, List.getElem?_cons_succ, Option.some.injEq, Nat.reduceSub, Nat.reduceAdd, true_and, exists_eq_left, exists_eq_left', e_ix_tup, e_ix_lst, e_ix_fz, e_ix_ref, e_lo_lst, e_lo_fz, e_lo_ref, e_so_lst, e_so_fz, e_so_tup, e_so_ref, e_hd_lst, e_hd_ref, e_add_int, e_add_str, e_add_tup, e_add_lst, e_sub_int, e_mul_int, e_mul_lst, e_mul_tup, e_mod_int, e_fdv_int, e_pow_int, e_lt_int, e_le_int, e_gt_int, e_ge_int, e_eq_int, e_ne_int, e_eq_str, e_ne_str, e_isN, e_notN, e_isN_non, e_isN_int, e_isN_tup, e_isN_str, e_isN_ref, e_isN_lst, e_abs, e_max2, e_min2, e_int_int, e_int_bl, e_str_int, e_str_str, e_str_non, e_len_str, e_len_tup, e_len_lst, e_len_fz, e_len_ref, e_list_tup, e_list_lst, e_list_fz, e_list_ref, e_tupl_tup, e_tupl_lst, e_tupl_ref, e_newT, e_newF, e_run_nm, e_run_tp, e_runs_nil, e_runs_cons, e_tru_bl, e_tru_int, e_tru_str, e_tru_lst, e_tru_tup, e_ty_str, e_ty_lst, e_ty_ref, e_append, e_insert, e_popAt, e_pop0, e_join, e_seqI_val, e_cut_str, e_cut_tup, e_cut_lst, e_cut_fz, e_cut_ref]
  refine loop_ind (fun i τ G' => (∃ v2 v3 v4 v5, τ = [some (.tup [.tup slots, .tup outs]), some (.ref p), v2, v3, v4, v5]) ∧ G' p = some (.lst (((List.zipWith lineT slots outs).take i).map D.str)) ∧ ∀ b u, G b = some u → G' b = some u) ?_ ?_ ⟨⟨_, _, _, _, rfl⟩, put_same, fun b u e => ?_⟩
  · rintro i w τ G' N hw ⟨⟨v2, v3, v4, v5, rfl⟩, gp, old⟩ hN
    refine ⟨trivial, ?_⟩
    obtain ⟨row, hrow, rfl⟩ := enumD_get hw
    have hi := (List.getElem?_eq_some_iff.mp hrow).1
    have hout : outs[i]? = some outs[i] := List.getElem?_eq_getElem (by omega)
    have ho := hh.2.2.2 _ (List.mem_of_getElem? hout)
    have hs := hh.2.2.1 _ (List.mem_of_getElem? hrow)
    have hz : (List.zipWith lineT slots outs)[i]? = some (lineT row outs[i]) := by rw [List.getElem?_zipWith, hrow, hout]
    have app : ∀ (v5 : Option D) (G2 : Gp) (z : Str), G2 = G' → z = lineT row outs[i] → b_heap_text_8 { nx := N, rt := less q, bk := b_heap_text_9 { nx := fun x G' => less q D.non G', rt := less q }, ct := N } [some (.tup [.tup slots, .tup outs]), some (.ref p), some (.int (i : Nat)), some row, some (.str z), v5] G2 := by
      rintro v5 G2 z rfl rfl
      simp only [b_heap_text_8, mSeq, mIfS, mAsg, mRet, mRetN, mDrop, mTest, mOp, mC, mVar, mSetI, mNext, mCB, mCons, mNil, mAndT, mOrT, mNotT, mTruT, mIf, mNeg, mOr, mAnd, mNot, mLst, mTup, mBM, mBM0, mPar, mCall, mCallK, mLstRg1, mTupRg1, mRng1, mRng2, mEnum, mZipT, mFor, mSl, mNoPart, mPart, mLc, wipeM, List.set_cons_zero, List.set_cons_succ, startM, List.map_cons, List.map_nil, List.cons_append, List.nil_append, List.length_cons, List.length_nil, List.replicate, List.getElem?_cons_zero, List.getElem?_cons_succ, Option.some.injEq, Nat.reduceSub, Nat.reduceAdd, true_and, exists_eq_left, exists_eq_left', e_ix_tup, e_ix_lst, e_ix_fz, e_ix_ref, e_lo_lst, e_lo_fz, e_lo_ref, e_so_lst, e_so_fz, e_so_tup, e_so_ref, e_hd_lst, e_hd_ref, e_add_int, e_add_str, e_add_tup, e_add_lst, e_sub_int, e_mul_int, e_mul_lst, e_mul_tup, e_mod_int, e_fdv_int, e_pow_int, e_lt_int, e_le_int, e_gt_int, e_ge_int, e_eq_int, e_ne_int, e_eq_str, e_ne_str, e_isN, e_notN, e_isN_non, e_isN_int, e_isN_tup, e_isN_str, e_isN_ref, e_isN_lst, e_abs, e_max2, e_min2, e_int_int, e_int_bl, e_str_int, e_str_str, e_str_non, e_len_str, e_len_tup, e_len_lst, e_len_fz, e_len_ref, e_list_tup, e_list_lst, e_list_fz, e_list_ref, e_tupl_tup, e_tupl_lst, e_tupl_ref, e_newT, e_newF, e_run_nm, e_run_tp, e_runs_nil, e_runs_cons, e_tru_bl, e_tru_int, e_tru_str, e_tru_lst, e_tru_tup, e_ty_str, e_ty_lst, e_ty_ref, e_append, e_insert, e_popAt, e_pop0, e_join, e_seqI_val, e_cut_str, e_cut_tup, e_cut_lst, e_cut_fz, e_cut_ref]
      refine ⟨⟨_, gp⟩, _, gp, by rw [List.length_map, List.length_take]; have := sizeLine_eq; omega, hN _ _ ⟨⟨_, _, _, _, rfl⟩, ?_, fun b u e => ?_⟩⟩
      · rw [put_same, List.take_add_one, hz, List.map_append]; rfl
      · have : b ≠ p := fun z => by subst z; rw [hp] at e; cases e
        rw [put_ne this]; exact old b u e
    simp only [b_heap_text_3, b_heap_text_4, mSeq, mIfS, mAsg, mRet, mRetN, mDrop, mTest, mOp, mC, mVar, mSetI, mNext, mCB, mCons, mNil, mAndT, mOrT, mNotT, mTruT, mIf, mNeg, mOr, mAnd, mNot, mLst, mTup, mBM, mBM0, mPar, mCall, mCallK, mLstRg1, mTupRg1, mRng1, mRng2, mEnum, mZipT, mFor, mSl, mNoPart, mPart, mLc, wipeM, List.set_cons_zero, List.set_cons_succ, startM, List.map_cons, List.map_nil, List.cons_append, List.nil_append, List.length_cons, List.length_nil, List.replicate, List.getElem?_cons_zero, List.getElem?_cons_succ, Option.some.injEq, Nat.reduceSub, Nat.reduceAdd, true_and, exists_eq_left, exists_eq_left', e_ix_tup, e_ix_lst, e_ix_fz, e_ix_ref, e_lo_lst, e_lo_fz, e_lo_ref, e_so_lst, e_so_fz, e_so_tup, e_so_ref, e_hd_lst, e_hd_ref, e_add_int, e_add_str, e_add_tup, e_add_lst, e_sub_int, e_mul_int, e_mul_lst, e_mul_tup, e_mod_int, e_fdv_int, e_pow_int, e_lt_int, e_le_int, e_gt_int, e_ge_int, e_eq_int, e_ne_int, e_eq_str, e_ne_str, e_isN, e_notN, e_isN_non, e_isN_int, e_isN_tup, e_isN_str, e_isN_ref, e_isN_lst, e_abs, e_max2, e_min2, e_int_int, e_int_bl, e_str_int, e_str_str, e_str_non, e_len_str, e_len_tup, e_len_lst, e_len_fz, e_len_ref, e_list_tup, e_list_lst, e_list_fz, e_list_ref, e_tupl_tup, e_tupl_lst, e_tupl_ref, e_newT, e_newF, e_run_nm, e_run_tp, e_runs_nil, e_runs_cons, e_tru_bl, e_tru_int, e_tru_str, e_tru_lst, e_tru_tup, e_ty_str, e_ty_lst, e_ty_ref, e_append, e_insert, e_popAt, e_pop0, e_join, e_seqI_val, e_cut_str, e_cut_tup, e_cut_lst, e_cut_fz, e_cut_ref]
    rcases hs with rfl | ⟨rw', rfl, hr⟩
    · simp only [Bool.not_true, mSeq, mIfS, mAsg, mRet, mRetN, mDrop, mTest, mOp, mC, mVar, mSetI, mNext, mCB, mCons, mNil, mAndT, mOrT, mNotT, mTruT, mIf, mNeg, mOr, mAnd, mNot, mLst, mTup, mBM, mBM0, mPar, mCall, mCallK, mLstRg1, mTupRg1, mRng1, mRng2, mEnum, mZipT, mFor, mSl, mNoPart, mPart, mLc, wipeM, List.set_cons_zero, List.set_cons_succ, startM, List.map_cons, List.map_nil, List.cons_append, List.nil_append, List.length_cons, List.length_nil, List.replicate, List.getElem?_cons_zero, List.getElem?_cons_succ, Option.some.injEq, Nat.reduceSub, Nat.reduceAdd, true_and, exists_eq_left, exists_eq_left', e_ix_tup, e_ix_lst, e_ix_fz, e_ix_ref, e_lo_lst, e_lo_fz, e_lo_ref, e_so_lst, e_so_fz, e_so_tup, e_so_ref, e_hd_lst, e_hd_ref, e_add_int, e_add_str, e_add_tup, e_add_lst, e_sub_int, e_mul_int, e_mul_lst, e_mul_tup, e_mod_int, e_fdv_int, e_pow_int, e_lt_int, e_le_int, e_gt_int, e_ge_int, e_eq_int, e_ne_int, e_eq_str, e_ne_str, e_isN, e_notN, e_isN_non, e_isN_int, e_isN_tup, e_isN_str, e_isN_ref, e_isN_lst, e_abs, e_max2, e_min2, e_int_int, e_int_bl, e_str_int, e_str_str, e_str_non, e_len_str, e_len_tup, e_len_lst, e_len_fz, e_len_ref, e_list_tup, e_list_lst, e_list_fz, e_list_ref, e_tupl_tup, e_tupl_lst, e_tupl_ref, e_newT, e_newF, e_run_nm, e_run_tp, e_runs_nil, e_runs_cons, e_tru_bl, e_tru_int, e_tru_str, e_tru_lst, e_tru_tup, e_ty_str, e_ty_lst, e_ty_ref, e_append, e_insert, e_popAt, e_pop0, e_join, e_seqI_val, e_cut_str, e_cut_tup, e_cut_lst, e_cut_fz, e_cut_ref]
      exact app _ _ _ rfl rfl
    · simp only [Bool.not_false, b_heap_text_5, mSeq, mIfS, mAsg, mRet, mRetN, mDrop, mTest, mOp, mC, mVar, mSetI, mNext, mCB, mCons, mNil, mAndT, mOrT, mNotT, mTruT, mIf, mNeg, mOr, mAnd, mNot, mLst, mTup, mBM, mBM0, mPar, mCall, mCallK, mLstRg1, mTupRg1, mRng1, mRng2, mEnum, mZipT, mFor, mSl, mNoPart, mPart, mLc, wipeM, List.set_cons_zero, List.set_cons_succ, startM, List.map_cons, List.map_nil, List.cons_append, List.nil_append, List.length_cons, List.length_nil, List.replicate, List.getElem?_cons_zero, List.getElem?_cons_succ, Option.some.injEq, Nat.reduceSub, Nat.reduceAdd, true_and, exists_eq_left, exists_eq_left', e_ix_tup, e_ix_lst, e_ix_fz, e_ix_ref, e_lo_lst, e_lo_fz, e_lo_ref, e_so_lst, e_so_fz, e_so_tup, e_so_ref, e_hd_lst, e_hd_ref, e_add_int, e_add_str, e_add_tup, e_add_lst, e_sub_int, e_mul_int, e_mul_lst, e_mul_tup, e_mod_int, e_fdv_int, e_pow_int, e_lt_int, e_le_int, e_gt_int, e_ge_int, e_eq_int, e_ne_int, e_eq_str, e_ne_str, e_isN, e_notN, e_isN_non, e_isN_int, e_isN_tup, e_isN_str, e_isN_ref, e_isN_lst, e_abs, e_max2, e_min2, e_int_int, e_int_bl, e_str_int, e_str_str, e_str_non, e_len_str, e_len_tup, e_len_lst, e_len_fz, e_len_ref, e_list_tup, e_list_lst, e_list_fz, e_list_ref, e_tupl_tup, e_tupl_lst, e_tupl_ref, e_newT, e_newF, e_run_nm, e_run_tp, e_runs_nil, e_runs_cons, e_tru_bl, e_tru_int, e_tru_str, e_tru_lst, e_tru_tup, e_ty_str, e_ty_lst, e_ty_ref, e_append, e_insert, e_popAt, e_pop0, e_join, e_seqI_val, e_cut_str, e_cut_tup, e_cut_lst, e_cut_fz, e_cut_ref]
      obtain ⟨w, hw2, _, hw3⟩ := at_in (xs := outs) (i := (i : Nat)) (by omega) (by omega)
      have ew : w = outs[i] := by
        rw [Int.toNat_natCast, hout] at hw3; exact (Option.some.inj hw3).symm
      subst ew
      obtain ⟨j, ej, j0, j1⟩ := ho
      refine ⟨_, rfl, _, hw2, ?_⟩
      have wo : Wr outs[i] := wr_out ⟨j, ej, j0, j1⟩
      have wrow : ∀ x ∈ rw', Wr x := fun x hx => wr_ref (by decide) (hr.2 x hx)
      rw [ej]
      simp only [b_heap_text_6, mSeq, mIfS, mAsg, mRet, mRetN, mDrop, mTest, mOp, mC, mVar, mSetI, mNext, mCB, mCons, mNil, mAndT, mOrT, mNotT, mTruT, mIf, mNeg, mOr, mAnd, mNot, mLst, mTup, mBM, mBM0, mPar, mCall, mCallK, mLstRg1, mTupRg1, mRng1, mRng2, mEnum, mZipT, mFor, mSl, mNoPart, mPart, mLc, wipeM, List.set_cons_zero, List.set_cons_succ, startM, List.map_cons, List.map_nil, List.cons_append, List.nil_append, List.length_cons, List.length_nil, List.replicate, List.getElem?_cons_zero, List.getElem?_cons_succ, Option.some.injEq, Nat.reduceSub, Nat.reduceAdd, true_and, exists_eq_left, exists_eq_left', e_ix_tup, e_ix_lst, e_ix_fz, e_ix_ref, e_lo_lst, e_lo_fz, e_lo_ref, e_so_lst, e_so_fz, e_so_tup, e_so_ref, e_hd_lst, e_hd_ref, e_add_int, e_add_str, e_add_tup, e_add_lst, e_sub_int, e_mul_int, e_mul_lst, e_mul_tup, e_mod_int, e_fdv_int, e_pow_int, e_lt_int, e_le_int, e_gt_int, e_ge_int, e_eq_int, e_ne_int, e_eq_str, e_ne_str, e_isN, e_notN, e_isN_non, e_isN_int, e_isN_tup, e_isN_str, e_isN_ref, e_isN_lst, e_abs, e_max2, e_min2, e_int_int, e_int_bl, e_str_int, e_str_str, e_str_non, e_len_str, e_len_tup, e_len_lst, e_len_fz, e_len_ref, e_list_tup, e_list_lst, e_list_fz, e_list_ref, e_tupl_tup, e_tupl_lst, e_tupl_ref, e_newT, e_newF, e_run_nm, e_run_tp, e_runs_nil, e_runs_cons, e_tru_bl, e_tru_int, e_tru_str, e_tru_lst, e_tru_tup, e_ty_str, e_ty_lst, e_ty_ref, e_append, e_insert, e_popAt, e_pop0, e_join, e_seqI_val, e_cut_str, e_cut_tup, e_cut_lst, e_cut_fz, e_cut_ref]
      refine ⟨int_log j0 (by omega), ?_⟩
      refine loop_ind (fun k τ G2 => G2 = G' ∧ ∃ v5, τ = [some (.tup [.tup slots, .tup outs]), some (.ref p), some (.int (i : Nat)), some (.tup rw'), some (.str (lineP outs[i] (rw'.take k))), v5]) ?_ ?_ ⟨rfl, _, by rw [List.take_zero, ej]; rfl⟩
      · rintro k x τ G2 N2 hx ⟨rfl, v5, rfl⟩ hN2
        refine ⟨trivial, ?_⟩
        have hk := (List.getElem?_eq_some_iff.mp hx).1
        have hln := lineP_len wo (l := rw'.take k) fun y hy => wrow y (List.mem_of_mem_take hy)
        rw [List.length_take] at hln
        have hrl := hr.1
        have hmx := wrow x (List.mem_of_getElem? hx)
        have hm1 := hmx.1
        have hsz := sizeLine_eq
        simp only [b_heap_text_7, mSeq, mIfS, mAsg, mRet, mRetN, mDrop, mTest, mOp, mC, mVar, mSetI, mNext, mCB, mCons, mNil, mAndT, mOrT, mNotT, mTruT, mIf, mNeg, mOr, mAnd, mNot, mLst, mTup, mBM, mBM0, mPar, mCall, mCallK, mLstRg1, mTupRg1, mRng1, mRng2, mEnum, mZipT, mFor, mSl, mNoPart, mPart, mLc, wipeM, List.set_cons_zero, List.set_cons_succ, startM, List.map_cons, List.map_nil, List.cons_append, List.nil_append, List.length_cons, List.length_nil, List.replicate, List.getElem?_cons_zero, List.getElem?_cons_succ, Option.some.injEq, Nat.reduceSub, Nat.reduceAdd, true_and, exists_eq_left, exists_eq_left', e_ix_tup, e_ix_lst, e_ix_fz, e_ix_ref, e_lo_lst, e_lo_fz, e_lo_ref, e_so_lst, e_so_fz, e_so_tup, e_so_ref, e_hd_lst, e_hd_ref, e_add_int, e_add_str, e_add_tup, e_add_lst, e_sub_int, e_mul_int, e_mul_lst, e_mul_tup, e_mod_int, e_fdv_int, e_pow_int, e_lt_int, e_le_int, e_gt_int, e_ge_int, e_eq_int, e_ne_int, e_eq_str, e_ne_str, e_isN, e_notN, e_isN_non, e_isN_int, e_isN_tup, e_isN_str, e_isN_ref, e_isN_lst, e_abs, e_max2, e_min2, e_int_int, e_int_bl, e_str_int, e_str_str, e_str_non, e_len_str, e_len_tup, e_len_lst, e_len_fz, e_len_ref, e_list_tup, e_list_lst, e_list_fz, e_list_ref, e_tupl_tup, e_tupl_lst, e_tupl_ref, e_newT, e_newF, e_run_nm, e_run_tp, e_runs_nil, e_runs_cons, e_tru_bl, e_tru_int, e_tru_str, e_tru_lst, e_tru_tup, e_ty_str, e_ty_lst, e_ty_ref, e_append, e_insert, e_popAt, e_pop0, e_join, e_seqI_val, e_cut_str, e_cut_tup, e_cut_lst, e_cut_fz, e_cut_ref]
        refine ⟨by rw [sp_len]; omega, ?_⟩
        have nxt : N2 [some (.tup [.tup slots, .tup outs]), some (.ref p), some (.int (i : Nat)), some (.tup rw'), some (.str (lineP outs[i] (rw'.take k) ++ " " ++ cell x)), some x] G2 := hN2 _ _ ⟨rfl, _, by rw [take_next hx, lineP_step]⟩
        rcases hr.2 x (List.mem_of_getElem? hx) with rfl | ⟨y, rfl, y0, y1⟩
        · simp only [Bool.not_true, mSeq, mIfS, mAsg, mRet, mRetN, mDrop, mTest, mOp, mC, mVar, mSetI, mNext, mCB, mCons, mNil, mAndT, mOrT, mNotT, mTruT, mIf, mNeg, mOr, mAnd, mNot, mLst, mTup, mBM, mBM0, mPar, mCall, mCallK, mLstRg1, mTupRg1, mRng1, mRng2, mEnum, mZipT, mFor, mSl, mNoPart, mPart, mLc, wipeM, List.set_cons_zero, List.set_cons_succ, startM, List.map_cons, List.map_nil, List.cons_append, List.nil_append, List.length_cons, List.length_nil, List.replicate, List.getElem?_cons_zero, List.getElem?_cons_succ, Option.some.injEq, Nat.reduceSub, Nat.reduceAdd, true_and, exists_eq_left, exists_eq_left', e_ix_tup, e_ix_lst, e_ix_fz, e_ix_ref, e_lo_lst, e_lo_fz, e_lo_ref, e_so_lst, e_so_fz, e_so_tup, e_so_ref, e_hd_lst, e_hd_ref, e_add_int, e_add_str, e_add_tup, e_add_lst, e_sub_int, e_mul_int, e_mul_lst, e_mul_tup, e_mod_int, e_fdv_int, e_pow_int, e_lt_int, e_le_int, e_gt_int, e_ge_int, e_eq_int, e_ne_int, e_eq_str, e_ne_str, e_isN, e_notN, e_isN_non, e_isN_int, e_isN_tup, e_isN_str, e_isN_ref, e_isN_lst, e_abs, e_max2, e_min2, e_int_int, e_int_bl, e_str_int, e_str_str, e_str_non, e_len_str, e_len_tup, e_len_lst, e_len_fz, e_len_ref, e_list_tup, e_list_lst, e_list_fz, e_list_ref, e_tupl_tup, e_tupl_lst, e_tupl_ref, e_newT, e_newF, e_run_nm, e_run_tp, e_runs_nil, e_runs_cons, e_tru_bl, e_tru_int, e_tru_str, e_tru_lst, e_tru_tup, e_ty_str, e_ty_lst, e_ty_ref, e_append, e_insert, e_popAt, e_pop0, e_join, e_seqI_val, e_cut_str, e_cut_tup, e_cut_lst, e_cut_fz, e_cut_ref]
          refine ⟨by decide, _, _, rfl, rfl, ?_⟩
          simp only [mSeq, mIfS, mAsg, mRet, mRetN, mDrop, mTest, mOp, mC, mVar, mSetI, mNext, mCB, mCons, mNil, mAndT, mOrT, mNotT, mTruT, mIf, mNeg, mOr, mAnd, mNot, mLst, mTup, mBM, mBM0, mPar, mCall, mCallK, mLstRg1, mTupRg1, mRng1, mRng2, mEnum, mZipT, mFor, mSl, mNoPart, mPart, mLc, wipeM, List.set_cons_zero, List.set_cons_succ, startM, List.map_cons, List.map_nil, List.cons_append, List.nil_append, List.length_cons, List.length_nil, List.replicate, List.getElem?_cons_zero, List.getElem?_cons_succ, Option.some.injEq, Nat.reduceSub, Nat.reduceAdd, true_and, exists_eq_left, exists_eq_left', e_ix_tup, e_ix_lst, e_ix_fz, e_ix_ref, e_lo_lst, e_lo_fz, e_lo_ref, e_so_lst, e_so_fz, e_so_tup, e_so_ref, e_hd_lst, e_hd_ref, e_add_int, e_add_str, e_add_tup, e_add_lst, e_sub_int, e_mul_int, e_mul_lst, e_mul_tup, e_mod_int, e_fdv_int, e_pow_int, e_lt_int, e_le_int, e_gt_int, e_ge_int, e_eq_int, e_ne_int, e_eq_str, e_ne_str, e_isN, e_notN, e_isN_non, e_isN_int, e_isN_tup, e_isN_str, e_isN_ref, e_isN_lst, e_abs, e_max2, e_min2, e_int_int, e_int_bl, e_str_int, e_str_str, e_str_non, e_len_str, e_len_tup, e_len_lst, e_len_fz, e_len_ref, e_list_tup, e_list_lst, e_list_fz, e_list_ref, e_tupl_tup, e_tupl_lst, e_tupl_ref, e_newT, e_newF, e_run_nm, e_run_tp, e_runs_nil, e_runs_cons, e_tru_bl, e_tru_int, e_tru_str, e_tru_lst, e_tru_tup, e_ty_str, e_ty_lst, e_ty_ref, e_append, e_insert, e_popAt, e_pop0, e_join, e_seqI_val, e_cut_str, e_cut_tup, e_cut_lst, e_cut_fz, e_cut_ref]
          exact ⟨by rw [len_app, sp_len]; show _ + (("-" : Str)).length ≤ _; rw [show (("-" : Str)).length = 1 by decide]; omega, nxt⟩
        · simp only [Bool.not_false, mSeq, mIfS, mAsg, mRet, mRetN, mDrop, mTest, mOp, mC, mVar, mSetI, mNext, mCB, mCons, mNil, mAndT, mOrT, mNotT, mTruT, mIf, mNeg, mOr, mAnd, mNot, mLst, mTup, mBM, mBM0, mPar, mCall, mCallK, mLstRg1, mTupRg1, mRng1, mRng2, mEnum, mZipT, mFor, mSl, mNoPart, mPart, mLc, wipeM, List.set_cons_zero, List.set_cons_succ, startM, List.map_cons, List.map_nil, List.cons_append, List.nil_append, List.length_cons, List.length_nil, List.replicate, List.getElem?_cons_zero, List.getElem?_cons_succ, Option.some.injEq, Nat.reduceSub, Nat.reduceAdd, true_and, exists_eq_left, exists_eq_left', e_ix_tup, e_ix_lst, e_ix_fz, e_ix_ref, e_lo_lst, e_lo_fz, e_lo_ref, e_so_lst, e_so_fz, e_so_tup, e_so_ref, e_hd_lst, e_hd_ref, e_add_int, e_add_str, e_add_tup, e_add_lst, e_sub_int, e_mul_int, e_mul_lst, e_mul_tup, e_mod_int, e_fdv_int, e_pow_int, e_lt_int, e_le_int, e_gt_int, e_ge_int, e_eq_int, e_ne_int, e_eq_str, e_ne_str, e_isN, e_notN, e_isN_non, e_isN_int, e_isN_tup, e_isN_str, e_isN_ref, e_isN_lst, e_abs, e_max2, e_min2, e_int_int, e_int_bl, e_str_int, e_str_str, e_str_non, e_len_str, e_len_tup, e_len_lst, e_len_fz, e_len_ref, e_list_tup, e_list_lst, e_list_fz, e_list_ref, e_tupl_tup, e_tupl_lst, e_tupl_ref, e_newT, e_newF, e_run_nm, e_run_tp, e_runs_nil, e_runs_cons, e_tru_bl, e_tru_int, e_tru_str, e_tru_lst, e_tru_tup, e_ty_str, e_ty_lst, e_ty_ref, e_append, e_insert, e_popAt, e_pop0, e_join, e_seqI_val, e_cut_str, e_cut_tup, e_cut_lst, e_cut_fz, e_cut_ref]
          refine ⟨int_log y0 (by omega), by decide, _, _, rfl, rfl, ?_⟩
          simp only [mSeq, mIfS, mAsg, mRet, mRetN, mDrop, mTest, mOp, mC, mVar, mSetI, mNext, mCB, mCons, mNil, mAndT, mOrT, mNotT, mTruT, mIf, mNeg, mOr, mAnd, mNot, mLst, mTup, mBM, mBM0, mPar, mCall, mCallK, mLstRg1, mTupRg1, mRng1, mRng2, mEnum, mZipT, mFor, mSl, mNoPart, mPart, mLc, wipeM, List.set_cons_zero, List.set_cons_succ, startM, List.map_cons, List.map_nil, List.cons_append, List.nil_append, List.length_cons, List.length_nil, List.replicate, List.getElem?_cons_zero, List.getElem?_cons_succ, Option.some.injEq, Nat.reduceSub, Nat.reduceAdd, true_and, exists_eq_left, exists_eq_left', e_ix_tup, e_ix_lst, e_ix_fz, e_ix_ref, e_lo_lst, e_lo_fz, e_lo_ref, e_so_lst, e_so_fz, e_so_tup, e_so_ref, e_hd_lst, e_hd_ref, e_add_int, e_add_str, e_add_tup, e_add_lst, e_sub_int, e_mul_int, e_mul_lst, e_mul_tup, e_mod_int, e_fdv_int, e_pow_int, e_lt_int, e_le_int, e_gt_int, e_ge_int, e_eq_int, e_ne_int, e_eq_str, e_ne_str, e_isN, e_notN, e_isN_non, e_isN_int, e_isN_tup, e_isN_str, e_isN_ref, e_isN_lst, e_abs, e_max2, e_min2, e_int_int, e_int_bl, e_str_int, e_str_str, e_str_non, e_len_str, e_len_tup, e_len_lst, e_len_fz, e_len_ref, e_list_tup, e_list_lst, e_list_fz, e_list_ref, e_tupl_tup, e_tupl_lst, e_tupl_ref, e_newT, e_newF, e_run_nm, e_run_tp, e_runs_nil, e_runs_cons, e_tru_bl, e_tru_int, e_tru_str, e_tru_lst, e_tru_tup, e_ty_str, e_ty_lst, e_ty_ref, e_append, e_insert, e_popAt, e_pop0, e_join, e_seqI_val, e_cut_str, e_cut_tup, e_cut_lst, e_cut_fz, e_cut_ref]
          have hm1' : (toString y : Str).length ≤ 31 := hm1
          exact ⟨by rw [len_app, sp_len]; omega, nxt⟩
      · rintro τ G2 ⟨rfl, v5, rfl⟩
        refine ⟨trivial, ?_⟩
        exact app _ _ _ rfl (by rw [List.take_length, lineP_all])
  · rintro τ G' ⟨⟨v2, v3, v4, v5, rfl⟩, gp, old⟩
    refine ⟨trivial, ?_⟩
    rw [enumD_len, List.take_of_length_le (by omega)] at gp
    simp only [b_heap_text_9, mSeq, mIfS, mAsg, mRet, mRetN, mDrop, mTest, mOp, mC, mVar, mSetI, mNext, mCB, mCons, mNil, mAndT, mOrT, mNotT, mTruT, mIf, mNeg, mOr, mAnd, mNot, mLst, mTup, mBM, mBM0, mPar, mCall, mCallK, mLstRg1, mTupRg1, mRng1, mRng2, mEnum, mZipT, mFor, mSl, mNoPart, mPart, mLc, wipeM, List.set_cons_zero, List.set_cons_succ, startM, List.map_cons, List.map_nil, List.cons_append, List.nil_append, List.length_cons, List.length_nil, List.replicate, List.getElem?_cons_zero, List.getElem?_cons_succ, Option.some.injEq, Nat.reduceSub, Nat.reduceAdd, true_and, exists_eq_left, exists_eq_left', e_ix_tup, e_ix_lst, e_ix_fz, e_ix_ref, e_lo_lst, e_lo_fz, e_lo_ref, e_so_lst, e_so_fz, e_so_tup, e_so_ref, e_hd_lst, e_hd_ref, e_add_int, e_add_str, e_add_tup, e_add_lst, e_sub_int, e_mul_int, e_mul_lst, e_mul_tup, e_mod_int, e_fdv_int, e_pow_int, e_lt_int, e_le_int, e_gt_int, e_ge_int, e_eq_int, e_ne_int, e_eq_str, e_ne_str, e_isN, e_notN, e_isN_non, e_isN_int, e_isN_tup, e_isN_str, e_isN_ref, e_isN_lst, e_abs, e_max2, e_min2, e_int_int, e_int_bl, e_str_int, e_str_str, e_str_non, e_len_str, e_len_tup, e_len_lst, e_len_fz, e_len_ref, e_list_tup, e_list_lst, e_list_fz, e_list_ref, e_tupl_tup, e_tupl_lst, e_tupl_ref, e_newT, e_newF, e_run_nm, e_run_tp, e_runs_nil, e_runs_cons, e_tru_bl, e_tru_int, e_tru_str, e_tru_lst, e_tru_tup, e_ty_str, e_ty_lst, e_ty_ref, e_append, e_insert, e_popAt, e_pop0, e_join, e_seqI_val, e_cut_str, e_cut_tup, e_cut_lst, e_cut_fz, e_cut_ref]
    exact ⟨_, _, gp, strsOf_map _, (big_join h1 (by omega)).2, less_of old hq⟩
  · have : b ≠ p := fun z => by subst z; rw [hp] at e; cases e
    rw [put_ne this]; exact e
end Q81

set_option maxRecDepth 100000
namespace Q81
open PySem PySem.Spec L2 ML
open PyProof.Rows hiding St
/-! ### what repr takes -/
def Dat (d w : Nat) (x : D) : Prop := okI x = true ∧ dep x ≤ d ∧ wtD x ≤ w
theorem Dat.mono {d w d' w' : Nat} {x : D} (h : Dat d w x) (h1 : d ≤ d') (h2 : w ≤ w') : Dat d' w' x := ⟨h.1, Nat.le_trans h.2.1 h1, Nat.le_trans h.2.2 h2⟩
theorem dat_non : Dat 0 10 .non := ⟨rfl, Nat.le_refl _, by unfold wtD; simp [pd, PyData.weight]⟩
theorem okI_int {i : Int} (h0 : 0 ≤ i) (h1 : i ≤ 10 ^ 30) : okI (.int i) = true := by
  show (decide (0 ≤ i) && decide (i ≤ 10 ^ 30)) = true
  rw [decide_eq_true h0, decide_eq_true h1]; rfl
theorem wt_int {i : Int} {k : Nat} (h : i.natAbs < 2 ^ k) (hk : 1 ≤ k) : wtD (.int i) ≤ k := by
  show (PyData.int i).weight ≤ k
  simp only [PyData.weight]
  by_cases hz : i.natAbs = 0
  · have : i = 0 := by omega
    subst this; simp
  · have := (Nat.log2_lt hz).mpr h
    split <;> omega
theorem dat_small {i : Int} (h0 : 0 ≤ i) (h1 : i ≤ 1000) : Dat 0 10 (.int i) := ⟨okI_int h0 (by omega), Nat.le_refl _, wt_int (by omega) (by decide)⟩
theorem dat_int {i : Int} (h0 : 0 ≤ i) (h1 : i ≤ 10 ^ 30) : Dat 0 100 (.int i) := ⟨okI_int h0 h1, Nat.le_refl _, wt_int (by
  have : (10 ^ 30 : Nat) < 2 ^ 100 := by decide +kernel
  omega) (by decide)⟩
theorem dat_tup {d w n : Nat} {xs : List D} (h : ∀ x ∈ xs, Dat d w x) (hn : xs.length ≤ n) : Dat (d + 1) (n * (w + 1)) (.tup xs) :=
  ⟨by show okIs xs = true; exact okIs_all fun x hx => (h x hx).1, Nat.succ_le_succ (deps_all fun x hx => (h x hx).2.1), Nat.le_trans (wt_tup fun x hx => (h x hx).2.2) (Nat.mul_le_mul_right _ hn)⟩
theorem dat_lst {d w n : Nat} {xs : List D} (h : ∀ x ∈ xs, Dat d w x) (hn : xs.length ≤ n) : Dat (d + 1) (n * (w + 1)) (.lst xs) :=
  ⟨by show okIs xs = true; exact okIs_all fun x hx => (h x hx).1, Nat.succ_le_succ (deps_all fun x hx => (h x hx).2.1), Nat.le_trans (wt_lst fun x hx => (h x hx).2.2) (Nat.mul_le_mul_right _ hn)⟩
theorem dat_ref {n : Nat} (hn : n ≤ 1000) {x : D} (h : RefOk n x) : Dat 0 10 x := by
  rcases h with rfl | ⟨i, rfl, a, b⟩
  · exact dat_non
  · exact dat_small a (by omega)
theorem dat_slot {x : D} (h : SlotOk x) : Dat 1 990 x := by
  rcases h with rfl | ⟨row, rfl, h⟩
  · exact dat_non.mono (by decide) (by decide)
  · exact dat_tup (w := 10) (n := 90) (fun y hy => dat_ref (by decide) (h.2 y hy)) h.1
theorem dat_nums {xs : List D} (h : NumsOk xs) : Dat 1 9090 (.tup xs) ∧ Dat 1 9090 (.lst xs) := by
  have hx : ∀ x ∈ xs, Dat 0 100 x := fun x hx => by obtain ⟨i, rfl, a, b⟩ := h.2 x hx; exact dat_int a b
  exact ⟨dat_tup (w := 100) (n := 90) hx h.1, dat_lst (w := 100) (n := 90) hx h.1⟩
theorem dat_home {x : D} (h : HomeOk x) : Dat 3 180000 x := by
  obtain ⟨slots, outs, rfl, h1, h2, h3, h4⟩ := h
  have a : Dat 2 89190 (.tup slots) := dat_tup (w := 990) (n := 90) (fun x hx => dat_slot (h3 x hx)) h2
  have b : Dat 2 89190 (.tup outs) := (dat_tup (w := 10) (n := 90) (fun x hx => by obtain ⟨i, rfl, a, b⟩ := h4 x hx; exact dat_small a (by omega)) (by omega)).mono (by decide) (by decide)
  exact (dat_tup (n := 2) (fun x hx => by
    rcases List.mem_cons.mp hx with rfl | hx
    · exact a
    · rw [List.mem_singleton] at hx; subst hx; exact b) (Nat.le_refl _)).mono (by decide) (by decide)
theorem dat_tree {x : D} (h : TreeOk x) : Dat 3 90000 x := by
  obtain ⟨rows, rfl, hl, hr⟩ := h
  exact (dat_tup (n := 90) (w := 990) (fun x hx => by
    obtain ⟨row, rfl, hn, hs⟩ := hr x hx
    exact dat_tup (w := 10) (n := 90) (fun y hy => by obtain ⟨i, rfl, a, b⟩ := hs y hy; exact dat_small a b) hn.1) hl).mono (by decide) (by decide)
theorem dat_some {x : D} (h : SomeOk x) : Dat 3 10000 x := by
  obtain ⟨xs, rfl | rfl, hn⟩ := h
  · exact (dat_nums hn).1.mono (by decide) (by decide)
  · exact (dat_nums hn).2.mono (by decide) (by decide)
theorem wt3 {x y z : D} {a b c : Nat} (hx : wtD x ≤ a) (hy : wtD y ≤ b) (hz : wtD z ≤ c) : wtD (.tup [x, y, z]) ≤ a + b + c + 3 := by
  show (pd (.tup [x, y, z])).weight ≤ _
  unfold wtD at hx hy hz
  simp only [pd, pds, PyData.weight, PyData.weightAll]
  omega
theorem e_repr {xs : List D} {G : Gp} {q : MK} : mRepr [.tup xs] G q = ((okD (.tup xs) = true ∧ dep (.tup xs) ≤ 60 ∧ (pd (.tup xs)).showable = true ∧ (pd (.tup xs)).hasDict = false ∧ (pd (.tup xs)).depth ≤ 60 ∧ (pd (.tup xs)).shown.length ≤ sizeLine) ∧ q (.str (pd (.tup xs)).shown) G) := rfl
theorem texts_ne {q : MK} {G : Gp} {a b c : Str} (ha : Tx 300000 a) (hb : Tx 300000 b) (hc : Tx 300000 c) (h : q (.bl false) G) : mNe (.lst [.str a, .str b, .str c]) (.lst [.str a, .str b, .str c]) G q := by
  have ok : okD (.lst [.str a, .str b, .str c]) = true := okDs_all fun d hd => by
    simp only [List.mem_cons, List.not_mem_nil, or_false] at hd
    rcases hd with rfl | rfl | rfl
    · exact ha.2
    · exact hb.2
    · exact hc.2
  have dp : dep (.lst [.str a, .str b, .str c]) ≤ 64 := Nat.le_trans (Nat.succ_le_succ (deps_all (n := 0) fun d hd => by
    simp only [List.mem_cons, List.not_mem_nil, or_false] at hd
    rcases hd with rfl | rfl | rfl <;> exact Nat.le_refl _)) (by decide)
  refine ne_val rfl ok ok dp dp (.inl rfl) (.inl rfl) ?_
  rw [eqD_self _ ok]; exact h
theorem law_right (x0 x1 x2 : D) (G : Gp) (q : MK) (h : p_right x0 x1 x2 G q) : b_right { nx := fun _ G' => less q .non G', rt := less q } (startM ["_law_home", "_law_given", "_law_some", "_law_state", "_law_due"] [x0, x1, x2]) G := by
  obtain ⟨hh, ht, hs, hq⟩ := h
  have d0 := dat_home hh
  have d1 := dat_tree ht
  have d2 := dat_some hs
  have dd : okI (.tup [x0, x1, x2]) = true := by
    show okIs [x0, x1, x2] = true
    rw [okIs_cons, okIs_cons, okIs_cons, d0.1, d1.1, d2.1]; rfl
  have d4 : dep (.tup [x0, x1, x2]) ≤ 4 := Nat.succ_le_succ (deps_all fun x hx => by
    simp only [List.mem_cons, List.not_mem_nil, or_false] at hx
    rcases hx with rfl | rfl | rfl
    · exact d0.2.1
    · exact d1.2.1
    · exact d2.2.1)
  have rp := repr_ok dd (Nat.le_trans d4 (by decide)) (Nat.le_trans (wt3 d0.2.2 d1.2.2 d2.2.2) (by decide))
  obtain ⟨slots, outs, rfl, hh⟩ := hh
  obtain ⟨xs, hx, hn⟩ := hs
  have ht' := ht
  obtain ⟨rows, rfl, _⟩ := ht'
  obtain ⟨t1, t2, t3⟩ := tree_lines ht
  obtain ⟨h1, h2⟩ := heap_lines hh
  have T1 : Tx 300000 (heapT slots outs) := (big_join h1 (by rw [h2]; exact hh.2.1)).1
  have T2 : Tx 300000 (treeT rows) := (big_join t1 (by rw [List.length_map]; exact t2)).1
  have T3 : Tx 300000 (numsT xs) := ⟨Nat.le_trans (tx_nums hn).1 (by decide), (tx_nums hn).2⟩
  simp only [b_right, e_repr, mSeq, mIfS, mAsg, mRet, mRetN, mDrop, mTest, mOp, mC, mVar, mSetI, mNext, mCB, mCons, mNil, mAndT, mOrT, mNotT, mTruT, mIf, mNeg, mOr, mAnd, mNot, mLst, mTup, mBM, mBM0, mPar, mCall, mCallK, mLstRg1, mTupRg1, mRng1, mRng2, mEnum, mZipT, mFor, mSl, mNoPart, mPart, mLc, wipeM, List.set_cons_zero, List.set_cons_succ, startM, List.map_cons, List.map_nil, List.cons_append, List.nil_append, List.length_cons, List.length_nil, List.replicate, List.getElem?_cons_zero, List.getElem?_cons_succ, Option.some.injEq, Nat.reduceSub, Nat.reduceAdd, true_and, exists_eq_left, exists_eq_left', e_ix_tup, e_ix_lst, e_ix_fz, e_ix_ref, e_lo_lst, e_lo_fz, e_lo_ref, e_so_lst, e_so_fz, e_so_tup, e_so_ref, e_hd_lst, e_hd_ref, e_add_int, e_add_str, e_add_tup, e_add_lst, e_sub_int, e_mul_int, e_mul_lst, e_mul_tup, e_mod_int, e_fdv_int, e_pow_int, e_lt_int, e_le_int, e_gt_int, e_ge_int, e_eq_int, e_ne_int, e_eq_str, e_ne_str, e_isN, e_notN, e_isN_non, e_isN_int, e_isN_tup, e_isN_str, e_isN_ref, e_isN_lst, e_abs, e_max2, e_min2, e_int_int, e_int_bl, e_str_int, e_str_str, e_str_non, e_len_str, e_len_tup, e_len_lst, e_len_fz, e_len_ref, e_list_tup, e_list_lst, e_list_fz, e_list_ref, e_tupl_tup, e_tupl_lst, e_tupl_ref, e_newT, e_newF, e_run_nm, e_run_tp, e_runs_nil, e_runs_cons, e_tru_bl, e_tru_int, e_tru_str, e_tru_lst, e_tru_tup, e_ty_str, e_ty_lst, e_ty_ref, e_append, e_insert, e_popAt, e_pop0, e_join, e_seqI_val, e_cut_str, e_cut_tup, e_cut_lst, e_cut_fz, e_cut_ref]
  refine ⟨by decide, rp, ?_⟩
  simp only [b_right_2, e_sp_heap_text, e_sp_tree_text, e_sp_numbers_text, mSeq, mIfS, mAsg, mRet, mRetN, mDrop, mTest, mOp, mC, mVar, mSetI, mNext, mCB, mCons, mNil, mAndT, mOrT, mNotT, mTruT, mIf, mNeg, mOr, mAnd, mNot, mLst, mTup, mBM, mBM0, mPar, mCall, mCallK, mLstRg1, mTupRg1, mRng1, mRng2, mEnum, mZipT, mFor, mSl, mNoPart, mPart, mLc, wipeM, List.set_cons_zero, List.set_cons_succ, startM, List.map_cons, List.map_nil, List.cons_append, List.nil_append, List.length_cons, List.length_nil, List.replicate, List.getElem?_cons_zero, List.getElem?_cons_succ, Option.some.injEq, Nat.reduceSub, Nat.reduceAdd, true_and, exists_eq_left, exists_eq_left', e_ix_tup, e_ix_lst, e_ix_fz, e_ix_ref, e_lo_lst, e_lo_fz, e_lo_ref, e_so_lst, e_so_fz, e_so_tup, e_so_ref, e_hd_lst, e_hd_ref, e_add_int, e_add_str, e_add_tup, e_add_lst, e_sub_int, e_mul_int, e_mul_lst, e_mul_tup, e_mod_int, e_fdv_int, e_pow_int, e_lt_int, e_le_int, e_gt_int, e_ge_int, e_eq_int, e_ne_int, e_eq_str, e_ne_str, e_isN, e_notN, e_isN_non, e_isN_int, e_isN_tup, e_isN_str, e_isN_ref, e_isN_lst, e_abs, e_max2, e_min2, e_int_int, e_int_bl, e_str_int, e_str_str, e_str_non, e_len_str, e_len_tup, e_len_lst, e_len_fz, e_len_ref, e_list_tup, e_list_lst, e_list_fz, e_list_ref, e_tupl_tup, e_tupl_lst, e_tupl_ref, e_newT, e_newF, e_run_nm, e_run_tp, e_runs_nil, e_runs_cons, e_tru_bl, e_tru_int, e_tru_str, e_tru_lst, e_tru_tup, e_ty_str, e_ty_lst, e_ty_ref, e_append, e_insert, e_popAt, e_pop0, e_join, e_seqI_val, e_cut_str, e_cut_tup, e_cut_lst, e_cut_fz, e_cut_ref]
  refine ⟨slots, outs, rfl, hh, rows, rfl, ht, xs, hx, hn, ?_⟩
  simp only [mSeq, mIfS, mAsg, mRet, mRetN, mDrop, mTest, mOp, mC, mVar, mSetI, mNext, mCB, mCons, mNil, mAndT, mOrT, mNotT, mTruT, mIf, mNeg, mOr, mAnd, mNot, mLst, mTup, mBM, mBM0, mPar, mCall, mCallK, mLstRg1, mTupRg1, mRng1, mRng2, mEnum, mZipT, mFor, mSl, mNoPart, mPart, mLc, wipeM, List.set_cons_zero, List.set_cons_succ, startM, List.map_cons, List.map_nil, List.cons_append, List.nil_append, List.length_cons, List.length_nil, List.replicate, List.getElem?_cons_zero, List.getElem?_cons_succ, Option.some.injEq, Nat.reduceSub, Nat.reduceAdd, true_and, exists_eq_left, exists_eq_left', e_ix_tup, e_ix_lst, e_ix_fz, e_ix_ref, e_lo_lst, e_lo_fz, e_lo_ref, e_so_lst, e_so_fz, e_so_tup, e_so_ref, e_hd_lst, e_hd_ref, e_add_int, e_add_str, e_add_tup, e_add_lst, e_sub_int, e_mul_int, e_mul_lst, e_mul_tup, e_mod_int, e_fdv_int, e_pow_int, e_lt_int, e_le_int, e_gt_int, e_ge_int, e_eq_int, e_ne_int, e_eq_str, e_ne_str, e_isN, e_notN, e_isN_non, e_isN_int, e_isN_tup, e_isN_str, e_isN_ref, e_isN_lst, e_abs, e_max2, e_min2, e_int_int, e_int_bl, e_str_int, e_str_str, e_str_non, e_len_str, e_len_tup, e_len_lst, e_len_fz, e_len_ref, e_list_tup, e_list_lst, e_list_fz, e_list_ref, e_tupl_tup, e_tupl_lst, e_tupl_ref, e_newT, e_newF, e_run_nm, e_run_tp, e_runs_nil, e_runs_cons, e_tru_bl, e_tru_int, e_tru_str, e_tru_lst, e_tru_tup, e_ty_str, e_ty_lst, e_ty_ref, e_append, e_insert, e_popAt, e_pop0, e_join, e_seqI_val, e_cut_str, e_cut_tup, e_cut_lst, e_cut_fz, e_cut_ref]
  refine ⟨by decide, ?_⟩
  simp only [b_right_3, e_sp_format_heap, e_sp_format_tree, e_sp_format_log, mSeq, mIfS, mAsg, mRet, mRetN, mDrop, mTest, mOp, mC, mVar, mSetI, mNext, mCB, mCons, mNil, mAndT, mOrT, mNotT, mTruT, mIf, mNeg, mOr, mAnd, mNot, mLst, mTup, mBM, mBM0, mPar, mCall, mCallK, mLstRg1, mTupRg1, mRng1, mRng2, mEnum, mZipT, mFor, mSl, mNoPart, mPart, mLc, wipeM, List.set_cons_zero, List.set_cons_succ, startM, List.map_cons, List.map_nil, List.cons_append, List.nil_append, List.length_cons, List.length_nil, List.replicate, List.getElem?_cons_zero, List.getElem?_cons_succ, Option.some.injEq, Nat.reduceSub, Nat.reduceAdd, true_and, exists_eq_left, exists_eq_left', e_ix_tup, e_ix_lst, e_ix_fz, e_ix_ref, e_lo_lst, e_lo_fz, e_lo_ref, e_so_lst, e_so_fz, e_so_tup, e_so_ref, e_hd_lst, e_hd_ref, e_add_int, e_add_str, e_add_tup, e_add_lst, e_sub_int, e_mul_int, e_mul_lst, e_mul_tup, e_mod_int, e_fdv_int, e_pow_int, e_lt_int, e_le_int, e_gt_int, e_ge_int, e_eq_int, e_ne_int, e_eq_str, e_ne_str, e_isN, e_notN, e_isN_non, e_isN_int, e_isN_tup, e_isN_str, e_isN_ref, e_isN_lst, e_abs, e_max2, e_min2, e_int_int, e_int_bl, e_str_int, e_str_str, e_str_non, e_len_str, e_len_tup, e_len_lst, e_len_fz, e_len_ref, e_list_tup, e_list_lst, e_list_fz, e_list_ref, e_tupl_tup, e_tupl_lst, e_tupl_ref, e_newT, e_newF, e_run_nm, e_run_tp, e_runs_nil, e_runs_cons, e_tru_bl, e_tru_int, e_tru_str, e_tru_lst, e_tru_tup, e_ty_str, e_ty_lst, e_ty_ref, e_append, e_insert, e_popAt, e_pop0, e_join, e_seqI_val, e_cut_str, e_cut_tup, e_cut_lst, e_cut_fz, e_cut_ref]
  refine ⟨slots, outs, rfl, hh, rows, rfl, ht, xs, hx, hn, ?_⟩
  simp only [mSeq, mIfS, mAsg, mRet, mRetN, mDrop, mTest, mOp, mC, mVar, mSetI, mNext, mCB, mCons, mNil, mAndT, mOrT, mNotT, mTruT, mIf, mNeg, mOr, mAnd, mNot, mLst, mTup, mBM, mBM0, mPar, mCall, mCallK, mLstRg1, mTupRg1, mRng1, mRng2, mEnum, mZipT, mFor, mSl, mNoPart, mPart, mLc, wipeM, List.set_cons_zero, List.set_cons_succ, startM, List.map_cons, List.map_nil, List.cons_append, List.nil_append, List.length_cons, List.length_nil, List.replicate, List.getElem?_cons_zero, List.getElem?_cons_succ, Option.some.injEq, Nat.reduceSub, Nat.reduceAdd, true_and, exists_eq_left, exists_eq_left', e_ix_tup, e_ix_lst, e_ix_fz, e_ix_ref, e_lo_lst, e_lo_fz, e_lo_ref, e_so_lst, e_so_fz, e_so_tup, e_so_ref, e_hd_lst, e_hd_ref, e_add_int, e_add_str, e_add_tup, e_add_lst, e_sub_int, e_mul_int, e_mul_lst, e_mul_tup, e_mod_int, e_fdv_int, e_pow_int, e_lt_int, e_le_int, e_gt_int, e_ge_int, e_eq_int, e_ne_int, e_eq_str, e_ne_str, e_isN, e_notN, e_isN_non, e_isN_int, e_isN_tup, e_isN_str, e_isN_ref, e_isN_lst, e_abs, e_max2, e_min2, e_int_int, e_int_bl, e_str_int, e_str_str, e_str_non, e_len_str, e_len_tup, e_len_lst, e_len_fz, e_len_ref, e_list_tup, e_list_lst, e_list_fz, e_list_ref, e_tupl_tup, e_tupl_lst, e_tupl_ref, e_newT, e_newF, e_run_nm, e_run_tp, e_runs_nil, e_runs_cons, e_tru_bl, e_tru_int, e_tru_str, e_tru_lst, e_tru_tup, e_ty_str, e_ty_lst, e_ty_ref, e_append, e_insert, e_popAt, e_pop0, e_join, e_seqI_val, e_cut_str, e_cut_tup, e_cut_lst, e_cut_fz, e_cut_ref]
  refine ⟨by decide, texts_ne T1 T2 T3 ?_⟩
  simp only [b_right_5, e_sp_format_heap, e_sp_format_tree, e_sp_format_log, mSeq, mIfS, mAsg, mRet, mRetN, mDrop, mTest, mOp, mC, mVar, mSetI, mNext, mCB, mCons, mNil, mAndT, mOrT, mNotT, mTruT, mIf, mNeg, mOr, mAnd, mNot, mLst, mTup, mBM, mBM0, mPar, mCall, mCallK, mLstRg1, mTupRg1, mRng1, mRng2, mEnum, mZipT, mFor, mSl, mNoPart, mPart, mLc, wipeM, List.set_cons_zero, List.set_cons_succ, startM, List.map_cons, List.map_nil, List.cons_append, List.nil_append, List.length_cons, List.length_nil, List.replicate, List.getElem?_cons_zero, List.getElem?_cons_succ, Option.some.injEq, Nat.reduceSub, Nat.reduceAdd, true_and, exists_eq_left, exists_eq_left', e_ix_tup, e_ix_lst, e_ix_fz, e_ix_ref, e_lo_lst, e_lo_fz, e_lo_ref, e_so_lst, e_so_fz, e_so_tup, e_so_ref, e_hd_lst, e_hd_ref, e_add_int, e_add_str, e_add_tup, e_add_lst, e_sub_int, e_mul_int, e_mul_lst, e_mul_tup, e_mod_int, e_fdv_int, e_pow_int, e_lt_int, e_le_int, e_gt_int, e_ge_int, e_eq_int, e_ne_int, e_eq_str, e_ne_str, e_isN, e_notN, e_isN_non, e_isN_int, e_isN_tup, e_isN_str, e_isN_ref, e_isN_lst, e_abs, e_max2, e_min2, e_int_int, e_int_bl, e_str_int, e_str_str, e_str_non, e_len_str, e_len_tup, e_len_lst, e_len_fz, e_len_ref, e_list_tup, e_list_lst, e_list_fz, e_list_ref, e_tupl_tup, e_tupl_lst, e_tupl_ref, e_newT, e_newF, e_run_nm, e_run_tp, e_runs_nil, e_runs_cons, e_tru_bl, e_tru_int, e_tru_str, e_tru_lst, e_tru_tup, e_ty_str, e_ty_lst, e_ty_ref, e_append, e_insert, e_popAt, e_pop0, e_join, e_seqI_val, e_cut_str, e_cut_tup, e_cut_lst, e_cut_fz, e_cut_ref]
  refine ⟨slots, outs, rfl, hh, rows, rfl, ht, xs, hx, hn, ?_⟩
  refine ⟨by decide, texts_ne T1 T2 T3 ?_⟩
  simp only [b_right_7, e_repr, mSeq, mIfS, mAsg, mRet, mRetN, mDrop, mTest, mOp, mC, mVar, mSetI, mNext, mCB, mCons, mNil, mAndT, mOrT, mNotT, mTruT, mIf, mNeg, mOr, mAnd, mNot, mLst, mTup, mBM, mBM0, mPar, mCall, mCallK, mLstRg1, mTupRg1, mRng1, mRng2, mEnum, mZipT, mFor, mSl, mNoPart, mPart, mLc, wipeM, List.set_cons_zero, List.set_cons_succ, startM, List.map_cons, List.map_nil, List.cons_append, List.nil_append, List.length_cons, List.length_nil, List.replicate, List.getElem?_cons_zero, List.getElem?_cons_succ, Option.some.injEq, Nat.reduceSub, Nat.reduceAdd, true_and, exists_eq_left, exists_eq_left', e_ix_tup, e_ix_lst, e_ix_fz, e_ix_ref, e_lo_lst, e_lo_fz, e_lo_ref, e_so_lst, e_so_fz, e_so_tup, e_so_ref, e_hd_lst, e_hd_ref, e_add_int, e_add_str, e_add_tup, e_add_lst, e_sub_int, e_mul_int, e_mul_lst, e_mul_tup, e_mod_int, e_fdv_int, e_pow_int, e_lt_int, e_le_int, e_gt_int, e_ge_int, e_eq_int, e_ne_int, e_eq_str, e_ne_str, e_isN, e_notN, e_isN_non, e_isN_int, e_isN_tup, e_isN_str, e_isN_ref, e_isN_lst, e_abs, e_max2, e_min2, e_int_int, e_int_bl, e_str_int, e_str_str, e_str_non, e_len_str, e_len_tup, e_len_lst, e_len_fz, e_len_ref, e_list_tup, e_list_lst, e_list_fz, e_list_ref, e_tupl_tup, e_tupl_lst, e_tupl_ref, e_newT, e_newF, e_run_nm, e_run_tp, e_runs_nil, e_runs_cons, e_tru_bl, e_tru_int, e_tru_str, e_tru_lst, e_tru_tup, e_ty_str, e_ty_lst, e_ty_ref, e_append, e_insert, e_popAt, e_pop0, e_join, e_seqI_val, e_cut_str, e_cut_tup, e_cut_lst, e_cut_fz, e_cut_ref]
  refine ⟨by decide, rp, ?_⟩
  simp only [decide_true, mSeq, mIfS, mAsg, mRet, mRetN, mDrop, mTest, mOp, mC, mVar, mSetI, mNext, mCB, mCons, mNil, mAndT, mOrT, mNotT, mTruT, mIf, mNeg, mOr, mAnd, mNot, mLst, mTup, mBM, mBM0, mPar, mCall, mCallK, mLstRg1, mTupRg1, mRng1, mRng2, mEnum, mZipT, mFor, mSl, mNoPart, mPart, mLc, wipeM, List.set_cons_zero, List.set_cons_succ, startM, List.map_cons, List.map_nil, List.cons_append, List.nil_append, List.length_cons, List.length_nil, List.replicate, List.getElem?_cons_zero, List.getElem?_cons_succ, Option.some.injEq, Nat.reduceSub, Nat.reduceAdd, true_and, exists_eq_left, exists_eq_left', e_ix_tup, e_ix_lst, e_ix_fz, e_ix_ref, e_lo_lst, e_lo_fz, e_lo_ref, e_so_lst, e_so_fz, e_so_tup, e_so_ref, e_hd_lst, e_hd_ref, e_add_int, e_add_str, e_add_tup, e_add_lst, e_sub_int, e_mul_int, e_mul_lst, e_mul_tup, e_mod_int, e_fdv_int, e_pow_int, e_lt_int, e_le_int, e_gt_int, e_ge_int, e_eq_int, e_ne_int, e_eq_str, e_ne_str, e_isN, e_notN, e_isN_non, e_isN_int, e_isN_tup, e_isN_str, e_isN_ref, e_isN_lst, e_abs, e_max2, e_min2, e_int_int, e_int_bl, e_str_int, e_str_str, e_str_non, e_len_str, e_len_tup, e_len_lst, e_len_fz, e_len_ref, e_list_tup, e_list_lst, e_list_fz, e_list_ref, e_tupl_tup, e_tupl_lst, e_tupl_ref, e_newT, e_newF, e_run_nm, e_run_tp, e_runs_nil, e_runs_cons, e_tru_bl, e_tru_int, e_tru_str, e_tru_lst, e_tru_tup, e_ty_str, e_ty_lst, e_ty_ref, e_append, e_insert, e_popAt, e_pop0, e_join, e_seqI_val, e_cut_str, e_cut_tup, e_cut_lst, e_cut_fz, e_cut_ref]
  exact less_here hq
theorem rng_ok {k n : Nat} (h : k ≤ n) : RowOk k (RefOk n) (rng 0 k) := ⟨Nat.le_of_eq rng_len, fun x hx => by
  obtain ⟨i, hi, rfl⟩ := List.mem_iff_getElem.mp hx
  obtain ⟨h1, e⟩ := rng_at (List.getElem?_eq_getElem hi)
  exact .inr ⟨_, e, by omega, by omega⟩⟩
theorem law_law (x0 : D) (G : Gp) (q : MK) (h : p_law x0 G q) : b_law { nx := fun _ G' => less q .non G', rt := less q } (startM ["_law_script", "_law_pen_here", "_law_most", "_law_home", "_law_spot", "_law_given", "_law_some", "_law_k"] [x0]) G := by
  obtain ⟨ns, rfl, hq⟩ := h
  simp only [b_law, e_sp_pen, mSeq, mIfS, mAsg, mRet, mRetN, mDrop, mTest, mOp, mC, mVar, mSetI, mNext, mCB, mCons, mNil, mAndT, mOrT, mNotT, mTruT, mIf, mNeg, mOr, mAnd, mNot, mLst, mTup, mBM, mBM0, mPar, mCall, mCallK, mLstRg1, mTupRg1, mRng1, mRng2, mEnum, mZipT, mFor, mSl, mNoPart, mPart, mLc, wipeM, List.set_cons_zero, List.set_cons_succ, startM, List.map_cons, List.map_nil, List.cons_append, List.nil_append, List.length_cons, List.length_nil, List.replicate, List.getElem?_cons_zero, List.getElem?_cons_succ, Option.some.injEq, Nat.reduceSub, Nat.reduceAdd, true_and, exists_eq_left, exists_eq_left', e_ix_tup, e_ix_lst, e_ix_fz, e_ix_ref, e_lo_lst, e_lo_fz, e_lo_ref, e_so_lst, e_so_fz, e_so_tup, e_so_ref, e_hd_lst, e_hd_ref, e_add_int, e_add_str, e_add_tup, e_add_lst, e_sub_int, e_mul_int, e_mul_lst, e_mul_tup, e_mod_int, e_fdv_int, e_pow_int, e_lt_int, e_le_int, e_gt_int, e_ge_int, e_eq_int, e_ne_int, e_eq_str, e_ne_str, e_isN, e_notN, e_isN_non, e_isN_int, e_isN_tup, e_isN_str, e_isN_ref, e_isN_lst, e_abs, e_max2, e_min2, e_int_int, e_int_bl, e_str_int, e_str_str, e_str_non, e_len_str, e_len_tup, e_len_lst, e_len_fz, e_len_ref, e_list_tup, e_list_lst, e_list_fz, e_list_ref, e_tupl_tup, e_tupl_lst, e_tupl_ref, e_newT, e_newF, e_run_nm, e_run_tp, e_runs_nil, e_runs_cons, e_tru_bl, e_tru_int, e_tru_str, e_tru_lst, e_tru_tup, e_ty_str, e_ty_lst, e_ty_ref, e_append, e_insert, e_popAt, e_pop0, e_join, e_seqI_val, e_cut_str, e_cut_tup, e_cut_lst, e_cut_fz, e_cut_ref]
  refine ⟨ns, rfl, fun a o ha p0 => ?_⟩
  simp only [b_law_2, e_seqI_val, mSeq, mIfS, mAsg, mRet, mRetN, mDrop, mTest, mOp, mC, mVar, mSetI, mNext, mCB, mCons, mNil, mAndT, mOrT, mNotT, mTruT, mIf, mNeg, mOr, mAnd, mNot, mLst, mTup, mBM, mBM0, mPar, mCall, mCallK, mLstRg1, mTupRg1, mRng1, mRng2, mEnum, mZipT, mFor, mSl, mNoPart, mPart, mLc, wipeM, List.set_cons_zero, List.set_cons_succ, startM, List.map_cons, List.map_nil, List.cons_append, List.nil_append, List.length_cons, List.length_nil, List.replicate, List.getElem?_cons_zero, List.getElem?_cons_succ, Option.some.injEq, Nat.reduceSub, Nat.reduceAdd, true_and, exists_eq_left, exists_eq_left', e_ix_tup, e_ix_lst, e_ix_fz, e_ix_ref, e_lo_lst, e_lo_fz, e_lo_ref, e_so_lst, e_so_fz, e_so_tup, e_so_ref, e_hd_lst, e_hd_ref, e_add_int, e_add_str, e_add_tup, e_add_lst, e_sub_int, e_mul_int, e_mul_lst, e_mul_tup, e_mod_int, e_fdv_int, e_pow_int, e_lt_int, e_le_int, e_gt_int, e_ge_int, e_eq_int, e_ne_int, e_eq_str, e_ne_str, e_isN, e_notN, e_isN_non, e_isN_int, e_isN_tup, e_isN_str, e_isN_ref, e_isN_lst, e_abs, e_max2, e_min2, e_int_int, e_int_bl, e_str_int, e_str_str, e_str_non, e_len_str, e_len_tup, e_len_lst, e_len_fz, e_len_ref, e_list_tup, e_list_lst, e_list_fz, e_list_ref, e_tupl_tup, e_tupl_lst, e_tupl_ref, e_newT, e_newF, e_run_nm, e_run_tp, e_runs_nil, e_runs_cons, e_tru_bl, e_tru_int, e_tru_str, e_tru_lst, e_tru_tup, e_ty_str, e_ty_lst, e_ty_ref, e_append, e_insert, e_popAt, e_pop0, e_join, e_seqI_val, e_cut_str, e_cut_tup, e_cut_lst, e_cut_fz, e_cut_ref]
  refine ⟨by decide, loop_ind (fun i τ G' => (∃ v2 v3 v4 v5 v6 v7, τ = [some (.fz (ns.map D.int)), some (.ref a), v2, v3, v4, v5, v6, v7]) ∧ ∃ o', G' a = some o' ∧ Pen (10000 * i) o') ?_ ?_ ⟨⟨_, _, _, _, _, _, rfl⟩, o, put_same, p0⟩⟩
  · rintro i w τ G' N hw ⟨⟨v2, v3, v4, v5, v6, v7, rfl⟩, o', ga, pa⟩ hN
    refine ⟨trivial, ?_⟩
    have hi := (List.getElem?_eq_some_iff.mp hw).1
    simp only [List.length_cons, List.length_nil] at hi
    obtain ⟨n, rfl, n1, n2⟩ : ∃ n : Nat, w = .int (n : Nat) ∧ 1 ≤ n ∧ n ≤ 40 := by
      have := List.mem_of_getElem? hw
      simp only [List.mem_cons, List.not_mem_nil, or_false] at this
      rcases this with rfl | rfl
      · exact ⟨12, rfl, by decide, by decide⟩
      · exact ⟨40, rfl, by decide, by decide⟩
    simp only [b_law_3, e_sp_heap, mSeq, mIfS, mAsg, mRet, mRetN, mDrop, mTest, mOp, mC, mVar, mSetI, mNext, mCB, mCons, mNil, mAndT, mOrT, mNotT, mTruT, mIf, mNeg, mOr, mAnd, mNot, mLst, mTup, mBM, mBM0, mPar, mCall, mCallK, mLstRg1, mTupRg1, mRng1, mRng2, mEnum, mZipT, mFor, mSl, mNoPart, mPart, mLc, wipeM, List.set_cons_zero, List.set_cons_succ, startM, List.map_cons, List.map_nil, List.cons_append, List.nil_append, List.length_cons, List.length_nil, List.replicate, List.getElem?_cons_zero, List.getElem?_cons_succ, Option.some.injEq, Nat.reduceSub, Nat.reduceAdd, true_and, exists_eq_left, exists_eq_left', e_ix_tup, e_ix_lst, e_ix_fz, e_ix_ref, e_lo_lst, e_lo_fz, e_lo_ref, e_so_lst, e_so_fz, e_so_tup, e_so_ref, e_hd_lst, e_hd_ref, e_add_int, e_add_str, e_add_tup, e_add_lst, e_sub_int, e_mul_int, e_mul_lst, e_mul_tup, e_mod_int, e_fdv_int, e_pow_int, e_lt_int, e_le_int, e_gt_int, e_ge_int, e_eq_int, e_ne_int, e_eq_str, e_ne_str, e_isN, e_notN, e_isN_non, e_isN_int, e_isN_tup, e_isN_str, e_isN_ref, e_isN_lst, e_abs, e_max2, e_min2, e_int_int, e_int_bl, e_str_int, e_str_str, e_str_non, e_len_str, e_len_tup, e_len_lst, e_len_fz, e_len_ref, e_list_tup, e_list_lst, e_list_fz, e_list_ref, e_tupl_tup, e_tupl_lst, e_tupl_ref, e_newT, e_newF, e_run_nm, e_run_tp, e_runs_nil, e_runs_cons, e_tru_bl, e_tru_int, e_tru_str, e_tru_lst, e_tru_tup, e_ty_str, e_ty_lst, e_ty_ref, e_append, e_insert, e_popAt, e_pop0, e_join, e_seqI_val, e_cut_str, e_cut_tup, e_cut_lst, e_cut_fz, e_cut_ref]
    refine ⟨a, n, _, o', rfl, rfl, n1, n2, ga, pa, by omega, fun slots outs s o2 hh p2 => ?_⟩
    simp only [b_law_4, e_sp_children, mSeq, mIfS, mAsg, mRet, mRetN, mDrop, mTest, mOp, mC, mVar, mSetI, mNext, mCB, mCons, mNil, mAndT, mOrT, mNotT, mTruT, mIf, mNeg, mOr, mAnd, mNot, mLst, mTup, mBM, mBM0, mPar, mCall, mCallK, mLstRg1, mTupRg1, mRng1, mRng2, mEnum, mZipT, mFor, mSl, mNoPart, mPart, mLc, wipeM, List.set_cons_zero, List.set_cons_succ, startM, List.map_cons, List.map_nil, List.cons_append, List.nil_append, List.length_cons, List.length_nil, List.replicate, List.getElem?_cons_zero, List.getElem?_cons_succ, Option.some.injEq, Nat.reduceSub, Nat.reduceAdd, true_and, exists_eq_left, exists_eq_left', e_ix_tup, e_ix_lst, e_ix_fz, e_ix_ref, e_lo_lst, e_lo_fz, e_lo_ref, e_so_lst, e_so_fz, e_so_tup, e_so_ref, e_hd_lst, e_hd_ref, e_add_int, e_add_str, e_add_tup, e_add_lst, e_sub_int, e_mul_int, e_mul_lst, e_mul_tup, e_mod_int, e_fdv_int, e_pow_int, e_lt_int, e_le_int, e_gt_int, e_ge_int, e_eq_int, e_ne_int, e_eq_str, e_ne_str, e_isN, e_notN, e_isN_non, e_isN_int, e_isN_tup, e_isN_str, e_isN_ref, e_isN_lst, e_abs, e_max2, e_min2, e_int_int, e_int_bl, e_str_int, e_str_str, e_str_non, e_len_str, e_len_tup, e_len_lst, e_len_fz, e_len_ref, e_list_tup, e_list_lst, e_list_fz, e_list_ref, e_tupl_tup, e_tupl_lst, e_tupl_ref, e_newT, e_newF, e_run_nm, e_run_tp, e_runs_nil, e_runs_cons, e_tru_bl, e_tru_int, e_tru_str, e_tru_lst, e_tru_tup, e_ty_str, e_ty_lst, e_ty_ref, e_append, e_insert, e_popAt, e_pop0, e_join, e_seqI_val, e_cut_str, e_cut_tup, e_cut_lst, e_cut_fz, e_cut_ref]
    refine ⟨a, n, _, o2, rfl, rfl, n1, n2, put_same, p2, by omega, fun t o3 ht p3 => ?_⟩
    simp only [put_put, b_law_5, e_sp_draw, mSeq, mIfS, mAsg, mRet, mRetN, mDrop, mTest, mOp, mC, mVar, mSetI, mNext, mCB, mCons, mNil, mAndT, mOrT, mNotT, mTruT, mIf, mNeg, mOr, mAnd, mNot, mLst, mTup, mBM, mBM0, mPar, mCall, mCallK, mLstRg1, mTupRg1, mRng1, mRng2, mEnum, mZipT, mFor, mSl, mNoPart, mPart, mLc, wipeM, List.set_cons_zero, List.set_cons_succ, startM, List.map_cons, List.map_nil, List.cons_append, List.nil_append, List.length_cons, List.length_nil, List.replicate, List.getElem?_cons_zero, List.getElem?_cons_succ, Option.some.injEq, Nat.reduceSub, Nat.reduceAdd, true_and, exists_eq_left, exists_eq_left', e_ix_tup, e_ix_lst, e_ix_fz, e_ix_ref, e_lo_lst, e_lo_fz, e_lo_ref, e_so_lst, e_so_fz, e_so_tup, e_so_ref, e_hd_lst, e_hd_ref, e_add_int, e_add_str, e_add_tup, e_add_lst, e_sub_int, e_mul_int, e_mul_lst, e_mul_tup, e_mod_int, e_fdv_int, e_pow_int, e_lt_int, e_le_int, e_gt_int, e_ge_int, e_eq_int, e_ne_int, e_eq_str, e_ne_str, e_isN, e_notN, e_isN_non, e_isN_int, e_isN_tup, e_isN_str, e_isN_ref, e_isN_lst, e_abs, e_max2, e_min2, e_int_int, e_int_bl, e_str_int, e_str_str, e_str_non, e_len_str, e_len_tup, e_len_lst, e_len_fz, e_len_ref, e_list_tup, e_list_lst, e_list_fz, e_list_ref, e_tupl_tup, e_tupl_lst, e_tupl_ref, e_newT, e_newF, e_run_nm, e_run_tp, e_runs_nil, e_runs_cons, e_tru_bl, e_tru_int, e_tru_str, e_tru_lst, e_tru_tup, e_ty_str, e_ty_lst, e_ty_ref, e_append, e_insert, e_popAt, e_pop0, e_join, e_seqI_val, e_cut_str, e_cut_tup, e_cut_lst, e_cut_fz, e_cut_ref]
    refine draw_at (E := noX) put_same p3 (by omega) (by omega) (by omega) fun r o4 r0 r1 p4 => ?_
    simp only [put_put, mSeq, mIfS, mAsg, mRet, mRetN, mDrop, mTest, mOp, mC, mVar, mSetI, mNext, mCB, mCons, mNil, mAndT, mOrT, mNotT, mTruT, mIf, mNeg, mOr, mAnd, mNot, mLst, mTup, mBM, mBM0, mPar, mCall, mCallK, mLstRg1, mTupRg1, mRng1, mRng2, mEnum, mZipT, mFor, mSl, mNoPart, mPart, mLc, wipeM, List.set_cons_zero, List.set_cons_succ, startM, List.map_cons, List.map_nil, List.cons_append, List.nil_append, List.length_cons, List.length_nil, List.replicate, List.getElem?_cons_zero, List.getElem?_cons_succ, Option.some.injEq, Nat.reduceSub, Nat.reduceAdd, true_and, exists_eq_left, exists_eq_left', e_ix_tup, e_ix_lst, e_ix_fz, e_ix_ref, e_lo_lst, e_lo_fz, e_lo_ref, e_so_lst, e_so_fz, e_so_tup, e_so_ref, e_hd_lst, e_hd_ref, e_add_int, e_add_str, e_add_tup, e_add_lst, e_sub_int, e_mul_int, e_mul_lst, e_mul_tup, e_mod_int, e_fdv_int, e_pow_int, e_lt_int, e_le_int, e_gt_int, e_ge_int, e_eq_int, e_ne_int, e_eq_str, e_ne_str, e_isN, e_notN, e_isN_non, e_isN_int, e_isN_tup, e_isN_str, e_isN_ref, e_isN_lst, e_abs, e_max2, e_min2, e_int_int, e_int_bl, e_str_int, e_str_str, e_str_non, e_len_str, e_len_tup, e_len_lst, e_len_fz, e_len_ref, e_list_tup, e_list_lst, e_list_fz, e_list_ref, e_tupl_tup, e_tupl_lst, e_tupl_ref, e_newT, e_newF, e_run_nm, e_run_tp, e_runs_nil, e_runs_cons, e_tru_bl, e_tru_int, e_tru_str, e_tru_lst, e_tru_tup, e_ty_str, e_ty_lst, e_ty_ref, e_append, e_insert, e_popAt, e_pop0, e_join, e_seqI_val, e_cut_str, e_cut_tup, e_cut_lst, e_cut_fz, e_cut_ref]
    refine ⟨⟨by omega, by omega⟩, comp_ind (fun k acc G2 => (∃ o', G2 a = some o' ∧ Pen (10000 * i + 5000 + 2 * k) o') ∧ acc.length = k ∧ ∀ x ∈ acc, NumOk x) ?_ ?_ ⟨⟨o4, put_same, p4.mono (by omega)⟩, rfl, fun _ h => nomatch h⟩⟩
    · rintro k w acc G2 N2 hw2 ⟨⟨o5, g5, p5⟩, al, ain⟩ hN2
      obtain ⟨hk, rfl⟩ := rng_at hw2
      have hk' : k < 41 := by omega
      refine ⟨trivial, ?_⟩
      simp only [mYes, e_sp_draw, mSeq, mIfS, mAsg, mRet, mRetN, mDrop, mTest, mOp, mC, mVar, mSetI, mNext, mCB, mCons, mNil, mAndT, mOrT, mNotT, mTruT, mIf, mNeg, mOr, mAnd, mNot, mLst, mTup, mBM, mBM0, mPar, mCall, mCallK, mLstRg1, mTupRg1, mRng1, mRng2, mEnum, mZipT, mFor, mSl, mNoPart, mPart, mLc, wipeM, List.set_cons_zero, List.set_cons_succ, startM, List.map_cons, List.map_nil, List.cons_append, List.nil_append, List.length_cons, List.length_nil, List.replicate, List.getElem?_cons_zero, List.getElem?_cons_succ, Option.some.injEq, Nat.reduceSub, Nat.reduceAdd, true_and, exists_eq_left, exists_eq_left', e_ix_tup, e_ix_lst, e_ix_fz, e_ix_ref, e_lo_lst, e_lo_fz, e_lo_ref, e_so_lst, e_so_fz, e_so_tup, e_so_ref, e_hd_lst, e_hd_ref, e_add_int, e_add_str, e_add_tup, e_add_lst, e_sub_int, e_mul_int, e_mul_lst, e_mul_tup, e_mod_int, e_fdv_int, e_pow_int, e_lt_int, e_le_int, e_gt_int, e_ge_int, e_eq_int, e_ne_int, e_eq_str, e_ne_str, e_isN, e_notN, e_isN_non, e_isN_int, e_isN_tup, e_isN_str, e_isN_ref, e_isN_lst, e_abs, e_max2, e_min2, e_int_int, e_int_bl, e_str_int, e_str_str, e_str_non, e_len_str, e_len_tup, e_len_lst, e_len_fz, e_len_ref, e_list_tup, e_list_lst, e_list_fz, e_list_ref, e_tupl_tup, e_tupl_lst, e_tupl_ref, e_newT, e_newF, e_run_nm, e_run_tp, e_runs_nil, e_runs_cons, e_tru_bl, e_tru_int, e_tru_str, e_tru_lst, e_tru_tup, e_ty_str, e_ty_lst, e_ty_ref, e_append, e_insert, e_popAt, e_pop0, e_join, e_seqI_val, e_cut_str, e_cut_tup, e_cut_lst, e_cut_fz, e_cut_ref]
      refine ⟨⟨by decide, by decide, by decide⟩, by decide, ?_⟩
      refine draw_at (E := noX) g5 p5 (by omega) (by omega) (by omega) fun y o6 y0 y1 p6 => ?_
      have go : ∀ b : Int, 1 ≤ b → b ≤ 10 ^ 30 → p_draw (.ref a) (.int b) (put G2 a o6) fun z G4 => acc.length < sizeLine ∧ N2 (acc ++ [z]) G4 := by
        intro b b1 b2
        refine draw_at (E := noX) put_same p6 (by omega) b1 b2 fun z o7 z0 z1 p7 => ⟨by have := sizeLine_eq; omega, hN2 _ _ ⟨⟨o7, put_same, p7.mono (by omega)⟩, by rw [List.length_append, al]; rfl, fun x hx => ?_⟩⟩
        rcases List.mem_append.mp hx with hx | hx
        · exact ain x hx
        · rw [List.mem_singleton] at hx; subst hx; exact ⟨z, rfl, z0, by omega⟩
      have hy : y = 0 ∨ y = 1 ∨ y = 2 := by omega
      rcases hy with rfl | rfl | rfl
      · exact ⟨_, _, rfl, rfl, go 10 (by decide) (by decide)⟩
      · exact ⟨_, _, rfl, rfl, go 41 (by decide) (by decide)⟩
      · exact ⟨_, _, rfl, rfl, go (10 ^ (30 : Int).toNat) (by decide) (by decide)⟩
    · rintro acc G2 ⟨⟨o5, g5, p5⟩, al, ain⟩
      rw [rng_len] at al p5
      have nok : NumsOk acc := ⟨by omega, ain⟩
      refine ⟨trivial, ?_⟩
      simp only [b_law_6, e_sp_draw, mSeq, mIfS, mAsg, mRet, mRetN, mDrop, mTest, mOp, mC, mVar, mSetI, mNext, mCB, mCons, mNil, mAndT, mOrT, mNotT, mTruT, mIf, mNeg, mOr, mAnd, mNot, mLst, mTup, mBM, mBM0, mPar, mCall, mCallK, mLstRg1, mTupRg1, mRng1, mRng2, mEnum, mZipT, mFor, mSl, mNoPart, mPart, mLc, wipeM, List.set_cons_zero, List.set_cons_succ, startM, List.map_cons, List.map_nil, List.cons_append, List.nil_append, List.length_cons, List.length_nil, List.replicate, List.getElem?_cons_zero, List.getElem?_cons_succ, Option.some.injEq, Nat.reduceSub, Nat.reduceAdd, true_and, exists_eq_left, exists_eq_left', e_ix_tup, e_ix_lst, e_ix_fz, e_ix_ref, e_lo_lst, e_lo_fz, e_lo_ref, e_so_lst, e_so_fz, e_so_tup, e_so_ref, e_hd_lst, e_hd_ref, e_add_int, e_add_str, e_add_tup, e_add_lst, e_sub_int, e_mul_int, e_mul_lst, e_mul_tup, e_mod_int, e_fdv_int, e_pow_int, e_lt_int, e_le_int, e_gt_int, e_ge_int, e_eq_int, e_ne_int, e_eq_str, e_ne_str, e_isN, e_notN, e_isN_non, e_isN_int, e_isN_tup, e_isN_str, e_isN_ref, e_isN_lst, e_abs, e_max2, e_min2, e_int_int, e_int_bl, e_str_int, e_str_str, e_str_non, e_len_str, e_len_tup, e_len_lst, e_len_fz, e_len_ref, e_list_tup, e_list_lst, e_list_fz, e_list_ref, e_tupl_tup, e_tupl_lst, e_tupl_ref, e_newT, e_newF, e_run_nm, e_run_tp, e_runs_nil, e_runs_cons, e_tru_bl, e_tru_int, e_tru_str, e_tru_lst, e_tru_tup, e_ty_str, e_ty_lst, e_ty_ref, e_append, e_insert, e_popAt, e_pop0, e_join, e_seqI_val, e_cut_str, e_cut_tup, e_cut_lst, e_cut_fz, e_cut_ref]
      refine draw_at (E := noX) g5 p5 (by omega) (by omega) (by omega) fun y o6 y0 y1 p6 => ?_
      have fin : ∀ sm : D, SomeOk sm → b_law_8 { nx := N, rt := less q, bk := b_law_10 { nx := fun x G' => less q D.non G', rt := less q }, ct := N } [some (.fz (ns.map D.int)), some (.ref a), some (.int (n : Nat)), some (.tup [.tup slots, .tup outs]), some s, some t, some sm, v7] (put G2 a o6) := by
        intro sm hsm
        simp only [b_law_8, e_sp_right, mSeq, mIfS, mAsg, mRet, mRetN, mDrop, mTest, mOp, mC, mVar, mSetI, mNext, mCB, mCons, mNil, mAndT, mOrT, mNotT, mTruT, mIf, mNeg, mOr, mAnd, mNot, mLst, mTup, mBM, mBM0, mPar, mCall, mCallK, mLstRg1, mTupRg1, mRng1, mRng2, mEnum, mZipT, mFor, mSl, mNoPart, mPart, mLc, wipeM, List.set_cons_zero, List.set_cons_succ, startM, List.map_cons, List.map_nil, List.cons_append, List.nil_append, List.length_cons, List.length_nil, List.replicate, List.getElem?_cons_zero, List.getElem?_cons_succ, Option.some.injEq, Nat.reduceSub, Nat.reduceAdd, true_and, exists_eq_left, exists_eq_left', e_ix_tup, e_ix_lst, e_ix_fz, e_ix_ref, e_lo_lst, e_lo_fz, e_lo_ref, e_so_lst, e_so_fz, e_so_tup, e_so_ref, e_hd_lst, e_hd_ref, e_add_int, e_add_str, e_add_tup, e_add_lst, e_sub_int, e_mul_int, e_mul_lst, e_mul_tup, e_mod_int, e_fdv_int, e_pow_int, e_lt_int, e_le_int, e_gt_int, e_ge_int, e_eq_int, e_ne_int, e_eq_str, e_ne_str, e_isN, e_notN, e_isN_non, e_isN_int, e_isN_tup, e_isN_str, e_isN_ref, e_isN_lst, e_abs, e_max2, e_min2, e_int_int, e_int_bl, e_str_int, e_str_str, e_str_non, e_len_str, e_len_tup, e_len_lst, e_len_fz, e_len_ref, e_list_tup, e_list_lst, e_list_fz, e_list_ref, e_tupl_tup, e_tupl_lst, e_tupl_ref, e_newT, e_newF, e_run_nm, e_run_tp, e_runs_nil, e_runs_cons, e_tru_bl, e_tru_int, e_tru_str, e_tru_lst, e_tru_tup, e_ty_str, e_ty_lst, e_ty_ref, e_append, e_insert, e_popAt, e_pop0, e_join, e_seqI_val, e_cut_str, e_cut_tup, e_cut_lst, e_cut_fz, e_cut_ref]
        refine ⟨⟨slots, outs, rfl, hh⟩, ht, hsm, ?_⟩
        simp only [Bool.not_true, mSeq, mIfS, mAsg, mRet, mRetN, mDrop, mTest, mOp, mC, mVar, mSetI, mNext, mCB, mCons, mNil, mAndT, mOrT, mNotT, mTruT, mIf, mNeg, mOr, mAnd, mNot, mLst, mTup, mBM, mBM0, mPar, mCall, mCallK, mLstRg1, mTupRg1, mRng1, mRng2, mEnum, mZipT, mFor, mSl, mNoPart, mPart, mLc, wipeM, List.set_cons_zero, List.set_cons_succ, startM, List.map_cons, List.map_nil, List.cons_append, List.nil_append, List.length_cons, List.length_nil, List.replicate, List.getElem?_cons_zero, List.getElem?_cons_succ, Option.some.injEq, Nat.reduceSub, Nat.reduceAdd, true_and, exists_eq_left, exists_eq_left', e_ix_tup, e_ix_lst, e_ix_fz, e_ix_ref, e_lo_lst, e_lo_fz, e_lo_ref, e_so_lst, e_so_fz, e_so_tup, e_so_ref, e_hd_lst, e_hd_ref, e_add_int, e_add_str, e_add_tup, e_add_lst, e_sub_int, e_mul_int, e_mul_lst, e_mul_tup, e_mod_int, e_fdv_int, e_pow_int, e_lt_int, e_le_int, e_gt_int, e_ge_int, e_eq_int, e_ne_int, e_eq_str, e_ne_str, e_isN, e_notN, e_isN_non, e_isN_int, e_isN_tup, e_isN_str, e_isN_ref, e_isN_lst, e_abs, e_max2, e_min2, e_int_int, e_int_bl, e_str_int, e_str_str, e_str_non, e_len_str, e_len_tup, e_len_lst, e_len_fz, e_len_ref, e_list_tup, e_list_lst, e_list_fz, e_list_ref, e_tupl_tup, e_tupl_lst, e_tupl_ref, e_newT, e_newF, e_run_nm, e_run_tp, e_runs_nil, e_runs_cons, e_tru_bl, e_tru_int, e_tru_str, e_tru_lst, e_tru_tup, e_ty_str, e_ty_lst, e_ty_ref, e_append, e_insert, e_popAt, e_pop0, e_join, e_seqI_val, e_cut_str, e_cut_tup, e_cut_lst, e_cut_fz, e_cut_ref]
        exact hN _ _ ⟨⟨_, _, _, _, _, _, rfl⟩, o6, put_same, p6.mono (by omega)⟩
      simp only [mSeq, mIfS, mAsg, mRet, mRetN, mDrop, mTest, mOp, mC, mVar, mSetI, mNext, mCB, mCons, mNil, mAndT, mOrT, mNotT, mTruT, mIf, mNeg, mOr, mAnd, mNot, mLst, mTup, mBM, mBM0, mPar, mCall, mCallK, mLstRg1, mTupRg1, mRng1, mRng2, mEnum, mZipT, mFor, mSl, mNoPart, mPart, mLc, wipeM, List.set_cons_zero, List.set_cons_succ, startM, List.map_cons, List.map_nil, List.cons_append, List.nil_append, List.length_cons, List.length_nil, List.replicate, List.getElem?_cons_zero, List.getElem?_cons_succ, Option.some.injEq, Nat.reduceSub, Nat.reduceAdd, true_and, exists_eq_left, exists_eq_left', e_ix_tup, e_ix_lst, e_ix_fz, e_ix_ref, e_lo_lst, e_lo_fz, e_lo_ref, e_so_lst, e_so_fz, e_so_tup, e_so_ref, e_hd_lst, e_hd_ref, e_add_int, e_add_str, e_add_tup, e_add_lst, e_sub_int, e_mul_int, e_mul_lst, e_mul_tup, e_mod_int, e_fdv_int, e_pow_int, e_lt_int, e_le_int, e_gt_int, e_ge_int, e_eq_int, e_ne_int, e_eq_str, e_ne_str, e_isN, e_notN, e_isN_non, e_isN_int, e_isN_tup, e_isN_str, e_isN_ref, e_isN_lst, e_abs, e_max2, e_min2, e_int_int, e_int_bl, e_str_int, e_str_str, e_str_non, e_len_str, e_len_tup, e_len_lst, e_len_fz, e_len_ref, e_list_tup, e_list_lst, e_list_fz, e_list_ref, e_tupl_tup, e_tupl_lst, e_tupl_ref, e_newT, e_newF, e_run_nm, e_run_tp, e_runs_nil, e_runs_cons, e_tru_bl, e_tru_int, e_tru_str, e_tru_lst, e_tru_tup, e_ty_str, e_ty_lst, e_ty_ref, e_append, e_insert, e_popAt, e_pop0, e_join, e_seqI_val, e_cut_str, e_cut_tup, e_cut_lst, e_cut_fz, e_cut_ref]
      by_cases hy : y = 0
      · simp only [hy, decide_true, b_law_7, mSeq, mIfS, mAsg, mRet, mRetN, mDrop, mTest, mOp, mC, mVar, mSetI, mNext, mCB, mCons, mNil, mAndT, mOrT, mNotT, mTruT, mIf, mNeg, mOr, mAnd, mNot, mLst, mTup, mBM, mBM0, mPar, mCall, mCallK, mLstRg1, mTupRg1, mRng1, mRng2, mEnum, mZipT, mFor, mSl, mNoPart, mPart, mLc, wipeM, List.set_cons_zero, List.set_cons_succ, startM, List.map_cons, List.map_nil, List.cons_append, List.nil_append, List.length_cons, List.length_nil, List.replicate, List.getElem?_cons_zero, List.getElem?_cons_succ, Option.some.injEq, Nat.reduceSub, Nat.reduceAdd, true_and, exists_eq_left, exists_eq_left', e_ix_tup, e_ix_lst, e_ix_fz, e_ix_ref, e_lo_lst, e_lo_fz, e_lo_ref, e_so_lst, e_so_fz, e_so_tup, e_so_ref, e_hd_lst, e_hd_ref, e_add_int, e_add_str, e_add_tup, e_add_lst, e_sub_int, e_mul_int, e_mul_lst, e_mul_tup, e_mod_int, e_fdv_int, e_pow_int, e_lt_int, e_le_int, e_gt_int, e_ge_int, e_eq_int, e_ne_int, e_eq_str, e_ne_str, e_isN, e_notN, e_isN_non, e_isN_int, e_isN_tup, e_isN_str, e_isN_ref, e_isN_lst, e_abs, e_max2, e_min2, e_int_int, e_int_bl, e_str_int, e_str_str, e_str_non, e_len_str, e_len_tup, e_len_lst, e_len_fz, e_len_ref, e_list_tup, e_list_lst, e_list_fz, e_list_ref, e_tupl_tup, e_tupl_lst, e_tupl_ref, e_newT, e_newF, e_run_nm, e_run_tp, e_runs_nil, e_runs_cons, e_tru_bl, e_tru_int, e_tru_str, e_tru_lst, e_tru_tup, e_ty_str, e_ty_lst, e_ty_ref, e_append, e_insert, e_popAt, e_pop0, e_join, e_seqI_val, e_cut_str, e_cut_tup, e_cut_lst, e_cut_fz, e_cut_ref]
        exact fin _ ⟨acc, .inl rfl, nok⟩
      · simp only [hy, decide_false, mSeq, mIfS, mAsg, mRet, mRetN, mDrop, mTest, mOp, mC, mVar, mSetI, mNext, mCB, mCons, mNil, mAndT, mOrT, mNotT, mTruT, mIf, mNeg, mOr, mAnd, mNot, mLst, mTup, mBM, mBM0, mPar, mCall, mCallK, mLstRg1, mTupRg1, mRng1, mRng2, mEnum, mZipT, mFor, mSl, mNoPart, mPart, mLc, wipeM, List.set_cons_zero, List.set_cons_succ, startM, List.map_cons, List.map_nil, List.cons_append, List.nil_append, List.length_cons, List.length_nil, List.replicate, List.getElem?_cons_zero, List.getElem?_cons_succ, Option.some.injEq, Nat.reduceSub, Nat.reduceAdd, true_and, exists_eq_left, exists_eq_left', e_ix_tup, e_ix_lst, e_ix_fz, e_ix_ref, e_lo_lst, e_lo_fz, e_lo_ref, e_so_lst, e_so_fz, e_so_tup, e_so_ref, e_hd_lst, e_hd_ref, e_add_int, e_add_str, e_add_tup, e_add_lst, e_sub_int, e_mul_int, e_mul_lst, e_mul_tup, e_mod_int, e_fdv_int, e_pow_int, e_lt_int, e_le_int, e_gt_int, e_ge_int, e_eq_int, e_ne_int, e_eq_str, e_ne_str, e_isN, e_notN, e_isN_non, e_isN_int, e_isN_tup, e_isN_str, e_isN_ref, e_isN_lst, e_abs, e_max2, e_min2, e_int_int, e_int_bl, e_str_int, e_str_str, e_str_non, e_len_str, e_len_tup, e_len_lst, e_len_fz, e_len_ref, e_list_tup, e_list_lst, e_list_fz, e_list_ref, e_tupl_tup, e_tupl_lst, e_tupl_ref, e_newT, e_newF, e_run_nm, e_run_tp, e_runs_nil, e_runs_cons, e_tru_bl, e_tru_int, e_tru_str, e_tru_lst, e_tru_tup, e_ty_str, e_ty_lst, e_ty_ref, e_append, e_insert, e_popAt, e_pop0, e_join, e_seqI_val, e_cut_str, e_cut_tup, e_cut_lst, e_cut_fz, e_cut_ref]
        exact fin _ ⟨acc, .inr rfl, nok⟩
  · rintro τ G' ⟨⟨v2, v3, v4, v5, v6, v7, rfl⟩, o', ga, pa⟩
    refine ⟨trivial, ?_⟩
    simp only [b_law_10, mSeq, mIfS, mAsg, mRet, mRetN, mDrop, mTest, mOp, mC, mVar, mSetI, mNext, mCB, mCons, mNil, mAndT, mOrT, mNotT, mTruT, mIf, mNeg, mOr, mAnd, mNot, mLst, mTup, mBM, mBM0, mPar, mCall, mCallK, mLstRg1, mTupRg1, mRng1, mRng2, mEnum, mZipT, mFor, mSl, mNoPart, mPart, mLc, wipeM, List.set_cons_zero, List.set_cons_succ, startM, List.map_cons, List.map_nil, List.cons_append, List.nil_append, List.length_cons, List.length_nil, List.replicate, List.getElem?_cons_zero, List.getElem?_cons_succ, Option.some.injEq, Nat.reduceSub, Nat.reduceAdd, true_and, exists_eq_left, exists_eq_left', e_ix_tup, e_ix_lst, e_ix_fz, e_ix_ref, e_lo_lst, e_lo_fz, e_lo_ref, e_so_lst, e_so_fz, e_so_tup, e_so_ref, e_hd_lst, e_hd_ref, e_add_int, e_add_str, e_add_tup, e_add_lst, e_sub_int, e_mul_int, e_mul_lst, e_mul_tup, e_mod_int, e_fdv_int, e_pow_int, e_lt_int, e_le_int, e_gt_int, e_ge_int, e_eq_int, e_ne_int, e_eq_str, e_ne_str, e_isN, e_notN, e_isN_non, e_isN_int, e_isN_tup, e_isN_str, e_isN_ref, e_isN_lst, e_abs, e_max2, e_min2, e_int_int, e_int_bl, e_str_int, e_str_str, e_str_non, e_len_str, e_len_tup, e_len_lst, e_len_fz, e_len_ref, e_list_tup, e_list_lst, e_list_fz, e_list_ref, e_tupl_tup, e_tupl_lst, e_tupl_ref, e_newT, e_newF, e_run_nm, e_run_tp, e_runs_nil, e_runs_cons, e_tru_bl, e_tru_int, e_tru_str, e_tru_lst, e_tru_tup, e_ty_str, e_ty_lst, e_ty_ref, e_append, e_insert, e_popAt, e_pop0, e_join, e_seqI_val, e_cut_str, e_cut_tup, e_cut_lst, e_cut_fz, e_cut_ref]
    refine ⟨⟨by decide, by decide, by decide, by decide, by decide⟩, by decide, ⟨by simp, by decide, by decide, by decide⟩, by decide, ⟨by simp, by decide, by decide, by decide⟩, by decide, ?_⟩
    simp only [b_law_11, e_sp_right, mSeq, mIfS, mAsg, mRet, mRetN, mDrop, mTest, mOp, mC, mVar, mSetI, mNext, mCB, mCons, mNil, mAndT, mOrT, mNotT, mTruT, mIf, mNeg, mOr, mAnd, mNot, mLst, mTup, mBM, mBM0, mPar, mCall, mCallK, mLstRg1, mTupRg1, mRng1, mRng2, mEnum, mZipT, mFor, mSl, mNoPart, mPart, mLc, wipeM, List.set_cons_zero, List.set_cons_succ, startM, List.map_cons, List.map_nil, List.cons_append, List.nil_append, List.length_cons, List.length_nil, List.replicate, List.getElem?_cons_zero, List.getElem?_cons_succ, Option.some.injEq, Nat.reduceSub, Nat.reduceAdd, true_and, exists_eq_left, exists_eq_left', e_ix_tup, e_ix_lst, e_ix_fz, e_ix_ref, e_lo_lst, e_lo_fz, e_lo_ref, e_so_lst, e_so_fz, e_so_tup, e_so_ref, e_hd_lst, e_hd_ref, e_add_int, e_add_str, e_add_tup, e_add_lst, e_sub_int, e_mul_int, e_mul_lst, e_mul_tup, e_mod_int, e_fdv_int, e_pow_int, e_lt_int, e_le_int, e_gt_int, e_ge_int, e_eq_int, e_ne_int, e_eq_str, e_ne_str, e_isN, e_notN, e_isN_non, e_isN_int, e_isN_tup, e_isN_str, e_isN_ref, e_isN_lst, e_abs, e_max2, e_min2, e_int_int, e_int_bl, e_str_int, e_str_str, e_str_non, e_len_str, e_len_tup, e_len_lst, e_len_fz, e_len_ref, e_list_tup, e_list_lst, e_list_fz, e_list_ref, e_tupl_tup, e_tupl_lst, e_tupl_ref, e_newT, e_newF, e_run_nm, e_run_tp, e_runs_nil, e_runs_cons, e_tru_bl, e_tru_int, e_tru_str, e_tru_lst, e_tru_tup, e_ty_str, e_ty_lst, e_ty_ref, e_append, e_insert, e_popAt, e_pop0, e_join, e_seqI_val, e_cut_str, e_cut_tup, e_cut_lst, e_cut_fz, e_cut_ref]
    have hr := rep_all (d := D.tup (rng 0 (40 : Int).toNat)) (k := (40 : Int).toNat)
    have hr9 := rep_all (d := D.int 9) (k := (40 : Int).toNat)
    have home : HomeOk (.tup [.tup (List.replicate (40 : Int).toNat [D.tup (rng 0 (40 : Int).toNat)]).flatten, .tup (List.replicate (40 : Int).toNat [D.int 9]).flatten]) := by
      refine ⟨_, _, rfl, by rw [hr.1, hr9.1], by rw [hr.1]; decide, fun x hx => ?_, fun x hx => ?_⟩
      · rw [hr.2 x hx]
        have := rng_ok (k := 40) (n := 90) (by decide)
        exact .inr ⟨_, rfl, Nat.le_trans this.1 (by decide), this.2⟩
      · exact ⟨9, hr9.2 x hx, by decide, by decide⟩
    have one : ∀ {xs : List D}, xs = [] ∨ xs = [.int 1] ∨ xs = [.int 0] → NumsOk xs := by
      rintro xs (rfl | rfl | rfl)
      · exact ⟨by decide, fun _ h => nomatch h⟩
      · exact ⟨by decide, fun x hx => by rw [List.mem_singleton] at hx; subst hx; exact ⟨1, rfl, by decide, by decide⟩⟩
      · exact ⟨by decide, fun x hx => by rw [List.mem_singleton] at hx; subst hx; exact ⟨0, rfl, by decide, by decide⟩⟩
    have tree1 : TreeOk (.tup [.tup []]) := ⟨_, rfl, by decide, fun x hx => by rw [List.mem_singleton] at hx; subst hx; exact ⟨[], rfl, one (.inl rfl), fun _ h => nomatch h⟩⟩
    have tree2 : TreeOk (.tup [.tup [.int 1], .tup []]) := ⟨_, rfl, by decide, fun x hx => by
      simp only [List.mem_cons, List.not_mem_nil, or_false] at hx
      rcases hx with rfl | rfl
      · exact ⟨_, rfl, one (.inr (.inl rfl)), fun y hy => by rw [List.mem_singleton] at hy; subst hy; exact ⟨1, rfl, by decide, by decide⟩⟩
      · exact ⟨[], rfl, one (.inl rfl), fun _ h => nomatch h⟩⟩
    have home0 : HomeOk (.tup [.tup [], .tup []]) := ⟨[], [], rfl, rfl, by decide, fun _ h => (nomatch h), fun _ h => (nomatch h)⟩
    have home1 : HomeOk (.tup [.tup [.non], .tup [.int 0]]) := ⟨[.non], [.int 0], rfl, rfl, by decide, fun x hx => .inl (List.mem_singleton.mp hx), fun x hx => ⟨0, List.mem_singleton.mp hx, by decide, by decide⟩⟩
    refine ⟨by decide, by decide, by decide, home, tree1, ⟨[], .inr rfl, one (.inl rfl)⟩, ?_⟩
    simp only [Bool.not_true, mSeq, mIfS, mAsg, mRet, mRetN, mDrop, mTest, mOp, mC, mVar, mSetI, mNext, mCB, mCons, mNil, mAndT, mOrT, mNotT, mTruT, mIf, mNeg, mOr, mAnd, mNot, mLst, mTup, mBM, mBM0, mPar, mCall, mCallK, mLstRg1, mTupRg1, mRng1, mRng2, mEnum, mZipT, mFor, mSl, mNoPart, mPart, mLc, wipeM, List.set_cons_zero, List.set_cons_succ, startM, List.map_cons, List.map_nil, List.cons_append, List.nil_append, List.length_cons, List.length_nil, List.replicate, List.getElem?_cons_zero, List.getElem?_cons_succ, Option.some.injEq, Nat.reduceSub, Nat.reduceAdd, true_and, exists_eq_left, exists_eq_left', e_ix_tup, e_ix_lst, e_ix_fz, e_ix_ref, e_lo_lst, e_lo_fz, e_lo_ref, e_so_lst, e_so_fz, e_so_tup, e_so_ref, e_hd_lst, e_hd_ref, e_add_int, e_add_str, e_add_tup, e_add_lst, e_sub_int, e_mul_int, e_mul_lst, e_mul_tup, e_mod_int, e_fdv_int, e_pow_int, e_lt_int, e_le_int, e_gt_int, e_ge_int, e_eq_int, e_ne_int, e_eq_str, e_ne_str, e_isN, e_notN, e_isN_non, e_isN_int, e_isN_tup, e_isN_str, e_isN_ref, e_isN_lst, e_abs, e_max2, e_min2, e_int_int, e_int_bl, e_str_int, e_str_str, e_str_non, e_len_str, e_len_tup, e_len_lst, e_len_fz, e_len_ref, e_list_tup, e_list_lst, e_list_fz, e_list_ref, e_tupl_tup, e_tupl_lst, e_tupl_ref, e_newT, e_newF, e_run_nm, e_run_tp, e_runs_nil, e_runs_cons, e_tru_bl, e_tru_int, e_tru_str, e_tru_lst, e_tru_tup, e_ty_str, e_ty_lst, e_ty_ref, e_append, e_insert, e_popAt, e_pop0, e_join, e_seqI_val, e_cut_str, e_cut_tup, e_cut_lst, e_cut_fz, e_cut_ref]
    refine ⟨by decide, by decide, by decide, by decide, by decide, by decide, by decide, home0, tree2, ⟨_, .inl rfl, one (.inr (.inr rfl))⟩, ?_⟩
    simp only [Bool.not_true, b_law_13, e_sp_right, mSeq, mIfS, mAsg, mRet, mRetN, mDrop, mTest, mOp, mC, mVar, mSetI, mNext, mCB, mCons, mNil, mAndT, mOrT, mNotT, mTruT, mIf, mNeg, mOr, mAnd, mNot, mLst, mTup, mBM, mBM0, mPar, mCall, mCallK, mLstRg1, mTupRg1, mRng1, mRng2, mEnum, mZipT, mFor, mSl, mNoPart, mPart, mLc, wipeM, List.set_cons_zero, List.set_cons_succ, startM, List.map_cons, List.map_nil, List.cons_append, List.nil_append, List.length_cons, List.length_nil, List.replicate, List.getElem?_cons_zero, List.getElem?_cons_succ, Option.some.injEq, Nat.reduceSub, Nat.reduceAdd, true_and, exists_eq_left, exists_eq_left', e_ix_tup, e_ix_lst, e_ix_fz, e_ix_ref, e_lo_lst, e_lo_fz, e_lo_ref, e_so_lst, e_so_fz, e_so_tup, e_so_ref, e_hd_lst, e_hd_ref, e_add_int, e_add_str, e_add_tup, e_add_lst, e_sub_int, e_mul_int, e_mul_lst, e_mul_tup, e_mod_int, e_fdv_int, e_pow_int, e_lt_int, e_le_int, e_gt_int, e_ge_int, e_eq_int, e_ne_int, e_eq_str, e_ne_str, e_isN, e_notN, e_isN_non, e_isN_int, e_isN_tup, e_isN_str, e_isN_ref, e_isN_lst, e_abs, e_max2, e_min2, e_int_int, e_int_bl, e_str_int, e_str_str, e_str_non, e_len_str, e_len_tup, e_len_lst, e_len_fz, e_len_ref, e_list_tup, e_list_lst, e_list_fz, e_list_ref, e_tupl_tup, e_tupl_lst, e_tupl_ref, e_newT, e_newF, e_run_nm, e_run_tp, e_runs_nil, e_runs_cons, e_tru_bl, e_tru_int, e_tru_str, e_tru_lst, e_tru_tup, e_ty_str, e_ty_lst, e_ty_ref, e_append, e_insert, e_popAt, e_pop0, e_join, e_seqI_val, e_cut_str, e_cut_tup, e_cut_lst, e_cut_fz, e_cut_ref]
    exact ⟨by decide, by decide, by decide, by decide, by decide, by decide, home1, tree1, ⟨[], .inl rfl, one (.inl rfl)⟩, less_here (hq _)⟩
theorem start_law (ns : List Int) (h : ns.length ≤ 63) : sp_law [.fz (ns.map D.int)] no (fun v _ => v = .bl true) noX := ⟨ns, rfl, fun _ => rfl⟩
end Q81

set_option maxRecDepth 100000
namespace Q81
open PySem PySem.Spec L2 ML
open PyProof.Rows hiding St
section
variable {P : Program} {w : World} {K : PySem.W.Frag} {mg : Str → Option Value} {base : Heap}
theorem ok_joined (T : Prg K mg) : FnG P w K mg base 1 T.f_joined T.fd_joined ["numbers"] sp_joined := by
  refine fnG_mk T.d_joined.fn sc_joined len_joined fun cdv A outer s H G Fr ws Q E hr h => ⟨_, walk_joined T  hr, ?_⟩
  unfold sp_joined at h
  split at h
  · exact law_joined _ G Q h
  · exact h.elim
theorem ok_line_of (T : Prg K mg) : FnG P w K mg base 1 T.f_line_of T.fd_line_of ["row", "references"] sp_line_of := by
  refine fnG_mk T.d_line_of.fn sc_line_of len_line_of fun cdv A outer s H G Fr ws Q E hr h => ⟨_, walk_line_of T  hr, ?_⟩
  unfold sp_line_of at h
  split at h
  · exact law_line_of _ _ G Q h
  · exact h.elim
theorem ok_pen (T : Prg K mg) : FnG P w K mg base 1 T.f_pen T.fd_pen ["_law_script"] sp_pen := by
  refine fnG_mk T.d_pen.fn sc_pen len_pen fun cdv A outer s H G Fr ws Q E hr h => ⟨_, walk_pen T  hr, ?_⟩
  unfold sp_pen at h
  split at h
  · exact law_pen _ G Q h
  · exact h.elim
theorem ok_draw (T : Prg K mg) : FnG P w K mg base 1 T.f_draw T.fd_draw ["_law_pen_here", "_law_bound"] sp_draw := by
  refine fnG_mk T.d_draw.fn sc_draw len_draw fun cdv A outer s H G Fr ws Q E hr h => ⟨_, walk_draw T  hr, ?_⟩
  unfold sp_draw at h
  split at h
  · exact law_draw _ _ G Q h
  · exact h.elim
theorem ok_heap_text (T : Prg K mg) : FnG P w K mg base 1 T.f_heap_text T.fd_heap_text ["_law_home"] sp_heap_text := by
  refine fnG_mk T.d_heap_text.fn sc_heap_text len_heap_text fun cdv A outer s H G Fr ws Q E hr h => ⟨_, walk_heap_text T  hr, ?_⟩
  unfold sp_heap_text at h
  split at h
  · exact law_heap_text _ G Q h
  · exact h.elim
theorem ok_numbers_text (T : Prg K mg) : FnG P w K mg base 1 T.f_numbers_text T.fd_numbers_text ["_law_some"] sp_numbers_text := by
  refine fnG_mk T.d_numbers_text.fn sc_numbers_text len_numbers_text fun cdv A outer s H G Fr ws Q E hr h => ⟨_, walk_numbers_text T  hr, ?_⟩
  unfold sp_numbers_text at h
  split at h
  · exact law_numbers_text _ G Q h
  · exact h.elim
theorem ok_format_heap (T : Prg K mg) : FnG P w K mg base 2 T.f_format_heap T.fd_format_heap ["heap"] sp_format_heap := by
  refine fnG_mk T.d_format_heap.fn sc_format_heap len_format_heap fun cdv A outer s H G Fr ws Q E hr h => ⟨_, walk_format_heap T (ok_line_of T) hr, ?_⟩
  unfold sp_format_heap at h
  split at h
  · exact law_format_heap _ G Q h
  · exact h.elim
theorem ok_format_tree (T : Prg K mg) : FnG P w K mg base 2 T.f_format_tree T.fd_format_tree ["tree"] sp_format_tree := by
  refine fnG_mk T.d_format_tree.fn sc_format_tree len_format_tree fun cdv A outer s H G Fr ws Q E hr h => ⟨_, walk_format_tree T (ok_joined T) hr, ?_⟩
  unfold sp_format_tree at h
  split at h
  · exact law_format_tree _ G Q h
  · exact h.elim
theorem ok_format_log (T : Prg K mg) : FnG P w K mg base 2 T.f_format_log T.fd_format_log ["log"] sp_format_log := by
  refine fnG_mk T.d_format_log.fn sc_format_log len_format_log fun cdv A outer s H G Fr ws Q E hr h => ⟨_, walk_format_log T (ok_joined T) hr, ?_⟩
  unfold sp_format_log at h
  split at h
  · exact law_format_log _ G Q h
  · exact h.elim
theorem ok_order (T : Prg K mg) : FnG P w K mg base 2 T.f_order T.fd_order ["_law_pen_here", "_law_size_here"] sp_order := by
  refine fnG_mk T.d_order.fn sc_order len_order fun cdv A outer s H G Fr ws Q E hr h => ⟨_, walk_order T (ok_draw T) hr, ?_⟩
  unfold sp_order at h
  split at h
  · exact law_order _ _ G Q h
  · exact h.elim
theorem ok_size (T : Prg K mg) : FnG P w K mg base 2 T.f_size T.fd_size ["_law_pen_here", "_law_most"] sp_size := by
  refine fnG_mk T.d_size.fn sc_size len_size fun cdv A outer s H G Fr ws Q E hr h => ⟨_, walk_size T (ok_draw T) hr, ?_⟩
  unfold sp_size at h
  split at h
  · exact law_size _ _ G Q h
  · exact h.elim
theorem ok_links (T : Prg K mg) : FnG P w K mg base 2 T.f_links T.fd_links ["_law_pen_here", "_law_size_here"] sp_links := by
  refine fnG_mk T.d_links.fn sc_links len_links fun cdv A outer s H G Fr ws Q E hr h => ⟨_, walk_links T (ok_draw T) hr, ?_⟩
  unfold sp_links at h
  split at h
  · exact law_links _ _ G Q h
  · exact h.elim
theorem ok_tree_text (T : Prg K mg) : FnG P w K mg base 2 T.f_tree_text T.fd_tree_text ["_law_given"] sp_tree_text := by
  refine fnG_mk T.d_tree_text.fn sc_tree_text len_tree_text fun cdv A outer s H G Fr ws Q E hr h => ⟨_, walk_tree_text T (ok_numbers_text T) hr, ?_⟩
  unfold sp_tree_text at h
  split at h
  · exact law_tree_text _ G Q h
  · exact h.elim
theorem ok_heap (T : Prg K mg) : FnG P w K mg base 3 T.f_heap T.fd_heap ["_law_pen_here", "_law_most"] sp_heap := by
  refine fnG_mk T.d_heap.fn sc_heap len_heap fun cdv A outer s H G Fr ws Q E hr h => ⟨_, walk_heap T (ok_size T) (ok_links T) (ok_order T) (ok_draw T) hr, ?_⟩
  unfold sp_heap at h
  split at h
  · exact law_heap _ _ G Q h
  · exact h.elim
theorem ok_children (T : Prg K mg) : FnG P w K mg base 3 T.f_children T.fd_children ["_law_pen_here", "_law_most"] sp_children := by
  refine fnG_mk T.d_children.fn sc_children len_children fun cdv A outer s H G Fr ws Q E hr h => ⟨_, walk_children T (ok_size T) (ok_order T) (ok_draw T) hr, ?_⟩
  unfold sp_children at h
  split at h
  · exact law_children _ _ G Q h
  · exact h.elim
theorem ok_right (T : Prg K mg) : FnG P w K mg base 3 T.f_right T.fd_right ["_law_home", "_law_given", "_law_some"] sp_right := by
  refine fnG_mk T.d_right.fn sc_right len_right fun cdv A outer s H G Fr ws Q E hr h => ⟨_, walk_right T (ok_heap_text T) (ok_tree_text T) (ok_numbers_text T) (ok_format_heap T) (ok_format_tree T) (ok_format_log T) hr, ?_⟩
  unfold sp_right at h
  split at h
  · exact law_right _ _ _ G Q h
  · exact h.elim
theorem ok_law (T : Prg K mg) : FnG P w K mg base 4 T.f_law T.fd_law ["_law_script"] sp_law := by
  refine fnG_mk T.d_law.fn sc_law len_law fun cdv A outer s H G Fr ws Q E hr h => ⟨_, walk_law T (ok_pen T) (ok_right T) (ok_heap T) (ok_children T) (ok_draw T) hr, ?_⟩
  unfold sp_law at h
  split at h
  · exact law_law _ G Q h
  · exact h.elim
theorem all_mk {l : PySem.W.OpenLaw} {w : World} {K : PySem.W.Frag} {h : Heap} {mg : Str → Option Value} {fa : Addr} (X : K.In h) (G : h.Ns mainGlobals mg) (hfa : mg "law" = some (.ref fa))
    {f_joined : Addr} {oc_joined kV_joined dc_joined pm_joined cd_joined ct_joined : Value} {od_joined an_joined : Option Addr} {sl_joined : Array (Option Value)} (a_joined : PySem.W.nsIn K mainGlobals "joined" = some (some (.ref f_joined))) (l_joined : K.lookup f_joined = some ⟨oc_joined, od_joined, .func (PySem.W.fnOf "joined" "joined" (defArgs s_joined) (defBody s_joined) (defScope s_joined) .none kV_joined dc_joined pm_joined an_joined cd_joined ct_joined), sl_joined⟩) (c_joined : PySem.W.codeIn K cd_joined "joined" = true) (k_joined : PySem.W.keepIn K (.ref f_joined) = true)
    {f_line_of : Addr} {oc_line_of kV_line_of dc_line_of pm_line_of cd_line_of ct_line_of : Value} {od_line_of an_line_of : Option Addr} {sl_line_of : Array (Option Value)} (a_line_of : PySem.W.nsIn K mainGlobals "line_of" = some (some (.ref f_line_of))) (l_line_of : K.lookup f_line_of = some ⟨oc_line_of, od_line_of, .func (PySem.W.fnOf "line_of" "line_of" (defArgs s_line_of) (defBody s_line_of) (defScope s_line_of) .none kV_line_of dc_line_of pm_line_of an_line_of cd_line_of ct_line_of), sl_line_of⟩) (c_line_of : PySem.W.codeIn K cd_line_of "line_of" = true) (k_line_of : PySem.W.keepIn K (.ref f_line_of) = true)
    {f_format_heap : Addr} {oc_format_heap kV_format_heap dc_format_heap pm_format_heap cd_format_heap ct_format_heap : Value} {od_format_heap an_format_heap : Option Addr} {sl_format_heap : Array (Option Value)} (a_format_heap : PySem.W.nsIn K mainGlobals "format_heap" = some (some (.ref f_format_heap))) (l_format_heap : K.lookup f_format_heap = some ⟨oc_format_heap, od_format_heap, .func (PySem.W.fnOf "format_heap" "format_heap" (defArgs s_format_heap) (defBody s_format_heap) (defScope s_format_heap) .none kV_format_heap dc_format_heap pm_format_heap an_format_heap cd_format_heap ct_format_heap), sl_format_heap⟩) (c_format_heap : PySem.W.codeIn K cd_format_heap "format_heap" = true) (k_format_heap : PySem.W.keepIn K (.ref f_format_heap) = true)
    {f_format_tree : Addr} {oc_format_tree kV_format_tree dc_format_tree pm_format_tree cd_format_tree ct_format_tree : Value} {od_format_tree an_format_tree : Option Addr} {sl_format_tree : Array (Option Value)} (a_format_tree : PySem.W.nsIn K mainGlobals "format_tree" = some (some (.ref f_format_tree))) (l_format_tree : K.lookup f_format_tree = some ⟨oc_format_tree, od_format_tree, .func (PySem.W.fnOf "format_tree" "format_tree" (defArgs s_format_tree) (defBody s_format_tree) (defScope s_format_tree) .none kV_format_tree dc_format_tree pm_format_tree an_format_tree cd_format_tree ct_format_tree), sl_format_tree⟩) (c_format_tree : PySem.W.codeIn K cd_format_tree "format_tree" = true) (k_format_tree : PySem.W.keepIn K (.ref f_format_tree) = true)
    {f_format_log : Addr} {oc_format_log kV_format_log dc_format_log pm_format_log cd_format_log ct_format_log : Value} {od_format_log an_format_log : Option Addr} {sl_format_log : Array (Option Value)} (a_format_log : PySem.W.nsIn K mainGlobals "format_log" = some (some (.ref f_format_log))) (l_format_log : K.lookup f_format_log = some ⟨oc_format_log, od_format_log, .func (PySem.W.fnOf "format_log" "format_log" (defArgs s_format_log) (defBody s_format_log) (defScope s_format_log) .none kV_format_log dc_format_log pm_format_log an_format_log cd_format_log ct_format_log), sl_format_log⟩) (c_format_log : PySem.W.codeIn K cd_format_log "format_log" = true) (k_format_log : PySem.W.keepIn K (.ref f_format_log) = true)
    {f_pen : Addr} {oc_pen kV_pen dc_pen pm_pen cd_pen ct_pen : Value} {od_pen an_pen : Option Addr} {sl_pen : Array (Option Value)} (a_pen : PySem.W.nsIn K mainGlobals "_law_pen" = some (some (.ref f_pen))) (l_pen : K.lookup f_pen = some ⟨oc_pen, od_pen, .func (PySem.W.fnOf "_law_pen" "_law_pen" (defArgs s_pen) (defBody s_pen) (defScope s_pen) .none kV_pen dc_pen pm_pen an_pen cd_pen ct_pen), sl_pen⟩) (c_pen : PySem.W.codeIn K cd_pen "_law_pen" = true) (k_pen : PySem.W.keepIn K (.ref f_pen) = true)
    {f_draw : Addr} {oc_draw kV_draw dc_draw pm_draw cd_draw ct_draw : Value} {od_draw an_draw : Option Addr} {sl_draw : Array (Option Value)} (a_draw : PySem.W.nsIn K mainGlobals "_law_draw" = some (some (.ref f_draw))) (l_draw : K.lookup f_draw = some ⟨oc_draw, od_draw, .func (PySem.W.fnOf "_law_draw" "_law_draw" (defArgs s_draw) (defBody s_draw) (defScope s_draw) .none kV_draw dc_draw pm_draw an_draw cd_draw ct_draw), sl_draw⟩) (c_draw : PySem.W.codeIn K cd_draw "_law_draw" = true) (k_draw : PySem.W.keepIn K (.ref f_draw) = true)
    {f_order : Addr} {oc_order kV_order dc_order pm_order cd_order ct_order : Value} {od_order an_order : Option Addr} {sl_order : Array (Option Value)} (a_order : PySem.W.nsIn K mainGlobals "_law_order" = some (some (.ref f_order))) (l_order : K.lookup f_order = some ⟨oc_order, od_order, .func (PySem.W.fnOf "_law_order" "_law_order" (defArgs s_order) (defBody s_order) (defScope s_order) .none kV_order dc_order pm_order an_order cd_order ct_order), sl_order⟩) (c_order : PySem.W.codeIn K cd_order "_law_order" = true) (k_order : PySem.W.keepIn K (.ref f_order) = true)
    {f_size : Addr} {oc_size kV_size dc_size pm_size cd_size ct_size : Value} {od_size an_size : Option Addr} {sl_size : Array (Option Value)} (a_size : PySem.W.nsIn K mainGlobals "_law_size" = some (some (.ref f_size))) (l_size : K.lookup f_size = some ⟨oc_size, od_size, .func (PySem.W.fnOf "_law_size" "_law_size" (defArgs s_size) (defBody s_size) (defScope s_size) .none kV_size dc_size pm_size an_size cd_size ct_size), sl_size⟩) (c_size : PySem.W.codeIn K cd_size "_law_size" = true) (k_size : PySem.W.keepIn K (.ref f_size) = true)
    {f_links : Addr} {oc_links kV_links dc_links pm_links cd_links ct_links : Value} {od_links an_links : Option Addr} {sl_links : Array (Option Value)} (a_links : PySem.W.nsIn K mainGlobals "_law_links" = some (some (.ref f_links))) (l_links : K.lookup f_links = some ⟨oc_links, od_links, .func (PySem.W.fnOf "_law_links" "_law_links" (defArgs s_links) (defBody s_links) (defScope s_links) .none kV_links dc_links pm_links an_links cd_links ct_links), sl_links⟩) (c_links : PySem.W.codeIn K cd_links "_law_links" = true) (k_links : PySem.W.keepIn K (.ref f_links) = true)
    {f_heap : Addr} {oc_heap kV_heap dc_heap pm_heap cd_heap ct_heap : Value} {od_heap an_heap : Option Addr} {sl_heap : Array (Option Value)} (a_heap : PySem.W.nsIn K mainGlobals "_law_heap" = some (some (.ref f_heap))) (l_heap : K.lookup f_heap = some ⟨oc_heap, od_heap, .func (PySem.W.fnOf "_law_heap" "_law_heap" (defArgs s_heap) (defBody s_heap) (defScope s_heap) .none kV_heap dc_heap pm_heap an_heap cd_heap ct_heap), sl_heap⟩) (c_heap : PySem.W.codeIn K cd_heap "_law_heap" = true) (k_heap : PySem.W.keepIn K (.ref f_heap) = true)
    {f_children : Addr} {oc_children kV_children dc_children pm_children cd_children ct_children : Value} {od_children an_children : Option Addr} {sl_children : Array (Option Value)} (a_children : PySem.W.nsIn K mainGlobals "_law_children" = some (some (.ref f_children))) (l_children : K.lookup f_children = some ⟨oc_children, od_children, .func (PySem.W.fnOf "_law_children" "_law_children" (defArgs s_children) (defBody s_children) (defScope s_children) .none kV_children dc_children pm_children an_children cd_children ct_children), sl_children⟩) (c_children : PySem.W.codeIn K cd_children "_law_children" = true) (k_children : PySem.W.keepIn K (.ref f_children) = true)
    {f_heap_text : Addr} {oc_heap_text kV_heap_text dc_heap_text pm_heap_text cd_heap_text ct_heap_text : Value} {od_heap_text an_heap_text : Option Addr} {sl_heap_text : Array (Option Value)} (a_heap_text : PySem.W.nsIn K mainGlobals "_law_heap_text" = some (some (.ref f_heap_text))) (l_heap_text : K.lookup f_heap_text = some ⟨oc_heap_text, od_heap_text, .func (PySem.W.fnOf "_law_heap_text" "_law_heap_text" (defArgs s_heap_text) (defBody s_heap_text) (defScope s_heap_text) .none kV_heap_text dc_heap_text pm_heap_text an_heap_text cd_heap_text ct_heap_text), sl_heap_text⟩) (c_heap_text : PySem.W.codeIn K cd_heap_text "_law_heap_text" = true) (k_heap_text : PySem.W.keepIn K (.ref f_heap_text) = true)
    {f_numbers_text : Addr} {oc_numbers_text kV_numbers_text dc_numbers_text pm_numbers_text cd_numbers_text ct_numbers_text : Value} {od_numbers_text an_numbers_text : Option Addr} {sl_numbers_text : Array (Option Value)} (a_numbers_text : PySem.W.nsIn K mainGlobals "_law_numbers_text" = some (some (.ref f_numbers_text))) (l_numbers_text : K.lookup f_numbers_text = some ⟨oc_numbers_text, od_numbers_text, .func (PySem.W.fnOf "_law_numbers_text" "_law_numbers_text" (defArgs s_numbers_text) (defBody s_numbers_text) (defScope s_numbers_text) .none kV_numbers_text dc_numbers_text pm_numbers_text an_numbers_text cd_numbers_text ct_numbers_text), sl_numbers_text⟩) (c_numbers_text : PySem.W.codeIn K cd_numbers_text "_law_numbers_text" = true) (k_numbers_text : PySem.W.keepIn K (.ref f_numbers_text) = true)
    {f_tree_text : Addr} {oc_tree_text kV_tree_text dc_tree_text pm_tree_text cd_tree_text ct_tree_text : Value} {od_tree_text an_tree_text : Option Addr} {sl_tree_text : Array (Option Value)} (a_tree_text : PySem.W.nsIn K mainGlobals "_law_tree_text" = some (some (.ref f_tree_text))) (l_tree_text : K.lookup f_tree_text = some ⟨oc_tree_text, od_tree_text, .func (PySem.W.fnOf "_law_tree_text" "_law_tree_text" (defArgs s_tree_text) (defBody s_tree_text) (defScope s_tree_text) .none kV_tree_text dc_tree_text pm_tree_text an_tree_text cd_tree_text ct_tree_text), sl_tree_text⟩) (c_tree_text : PySem.W.codeIn K cd_tree_text "_law_tree_text" = true) (k_tree_text : PySem.W.keepIn K (.ref f_tree_text) = true)
    {f_right : Addr} {oc_right kV_right dc_right pm_right cd_right ct_right : Value} {od_right an_right : Option Addr} {sl_right : Array (Option Value)} (a_right : PySem.W.nsIn K mainGlobals "_law_right" = some (some (.ref f_right))) (l_right : K.lookup f_right = some ⟨oc_right, od_right, .func (PySem.W.fnOf "_law_right" "_law_right" (defArgs s_right) (defBody s_right) (defScope s_right) .none kV_right dc_right pm_right an_right cd_right ct_right), sl_right⟩) (c_right : PySem.W.codeIn K cd_right "_law_right" = true) (k_right : PySem.W.keepIn K (.ref f_right) = true)
    {f_law : Addr} {oc_law kV_law dc_law pm_law cd_law ct_law : Value} {od_law an_law : Option Addr} {sl_law : Array (Option Value)} (a_law : PySem.W.nsIn K mainGlobals "law" = some (some (.ref f_law))) (l_law : K.lookup f_law = some ⟨oc_law, od_law, .func (PySem.W.fnOf "law" "law" (defArgs s_law) (defBody s_law) (defScope s_law) .none kV_law dc_law pm_law an_law cd_law ct_law), sl_law⟩) (c_law : PySem.W.codeIn K cd_law "law" = true) (k_law : PySem.W.keepIn K (.ref f_law) = true)
    (z_abs : PySem.W.nsIn K mainGlobals "abs" = some none)
    (z_enumerate : PySem.W.nsIn K mainGlobals "enumerate" = some none)
    (z_int : PySem.W.nsIn K mainGlobals "int" = some none)
    (z_len : PySem.W.nsIn K mainGlobals "len" = some none)
    (z_list : PySem.W.nsIn K mainGlobals "list" = some none)
    (z_max : PySem.W.nsIn K mainGlobals "max" = some none)
    (z_min : PySem.W.nsIn K mainGlobals "min" = some none)
    (z_range : PySem.W.nsIn K mainGlobals "range" = some none)
    (z_repr : PySem.W.nsIn K mainGlobals "repr" = some none)
    (z_str : PySem.W.nsIn K mainGlobals "str" = some none)
    (z_tuple : PySem.W.nsIn K mainGlobals "tuple" = some none)
    (z_zip : PySem.W.nsIn K mainGlobals "zip" = some none) :
    ∃ fd : FuncData, (∀ (s : Shared) (v : Value), BindsTo s fd ⟨[v], []⟩ [("_law_script", v)]) ∧ ∀ base : Heap, K.In base → base.Ns mainGlobals mg → FnG l.prog w K mg base 4 fa fd ["_law_script"] sp_law := by
  have e := hfa.symm.trans (PySem.W.mg_of X G a_law)
  cases e
  exact ⟨PySem.W.fnOf "law" "law" (defArgs s_law) (defBody s_law) (defScope s_law) .none kV_law dc_law pm_law an_law cd_law ct_law, fun s v => .of_eq rfl, fun base _ _ =>
    ok_law (mg := mg) ({
    f_joined := f_joined, fd_joined := _, d_joined := df_mk X G a_joined l_joined c_joined k_joined fun _ _ _ _ _ _ us hl => match us, hl with | [_], _ => rfl,
    f_line_of := f_line_of, fd_line_of := _, d_line_of := df_mk X G a_line_of l_line_of c_line_of k_line_of fun _ _ _ _ _ _ us hl => match us, hl with | [_, _], _ => rfl,
    f_format_heap := f_format_heap, fd_format_heap := _, d_format_heap := df_mk X G a_format_heap l_format_heap c_format_heap k_format_heap fun _ _ _ _ _ _ us hl => match us, hl with | [_], _ => rfl,
    f_format_tree := f_format_tree, fd_format_tree := _, d_format_tree := df_mk X G a_format_tree l_format_tree c_format_tree k_format_tree fun _ _ _ _ _ _ us hl => match us, hl with | [_], _ => rfl,
    f_format_log := f_format_log, fd_format_log := _, d_format_log := df_mk X G a_format_log l_format_log c_format_log k_format_log fun _ _ _ _ _ _ us hl => match us, hl with | [_], _ => rfl,
    f_pen := f_pen, fd_pen := _, d_pen := df_mk X G a_pen l_pen c_pen k_pen fun _ _ _ _ _ _ us hl => match us, hl with | [_], _ => rfl,
    f_draw := f_draw, fd_draw := _, d_draw := df_mk X G a_draw l_draw c_draw k_draw fun _ _ _ _ _ _ us hl => match us, hl with | [_, _], _ => rfl,
    f_order := f_order, fd_order := _, d_order := df_mk X G a_order l_order c_order k_order fun _ _ _ _ _ _ us hl => match us, hl with | [_, _], _ => rfl,
    f_size := f_size, fd_size := _, d_size := df_mk X G a_size l_size c_size k_size fun _ _ _ _ _ _ us hl => match us, hl with | [_, _], _ => rfl,
    f_links := f_links, fd_links := _, d_links := df_mk X G a_links l_links c_links k_links fun _ _ _ _ _ _ us hl => match us, hl with | [_, _], _ => rfl,
    f_heap := f_heap, fd_heap := _, d_heap := df_mk X G a_heap l_heap c_heap k_heap fun _ _ _ _ _ _ us hl => match us, hl with | [_, _], _ => rfl,
    f_children := f_children, fd_children := _, d_children := df_mk X G a_children l_children c_children k_children fun _ _ _ _ _ _ us hl => match us, hl with | [_, _], _ => rfl,
    f_heap_text := f_heap_text, fd_heap_text := _, d_heap_text := df_mk X G a_heap_text l_heap_text c_heap_text k_heap_text fun _ _ _ _ _ _ us hl => match us, hl with | [_], _ => rfl,
    f_numbers_text := f_numbers_text, fd_numbers_text := _, d_numbers_text := df_mk X G a_numbers_text l_numbers_text c_numbers_text k_numbers_text fun _ _ _ _ _ _ us hl => match us, hl with | [_], _ => rfl,
    f_tree_text := f_tree_text, fd_tree_text := _, d_tree_text := df_mk X G a_tree_text l_tree_text c_tree_text k_tree_text fun _ _ _ _ _ _ us hl => match us, hl with | [_], _ => rfl,
    f_right := f_right, fd_right := _, d_right := df_mk X G a_right l_right c_right k_right fun _ _ _ _ _ _ us hl => match us, hl with | [_, _, _], _ => rfl,
    f_law := fa, fd_law := _, d_law := df_mk X G a_law l_law c_law k_law fun _ _ _ _ _ _ us hl => match us, hl with | [_], _ => rfl,
    n_abs := PySem.W.mg_none_of X G z_abs,
    n_enumerate := PySem.W.mg_none_of X G z_enumerate,
    n_int := PySem.W.mg_none_of X G z_int,
    n_len := PySem.W.mg_none_of X G z_len,
    n_list := PySem.W.mg_none_of X G z_list,
    n_max := PySem.W.mg_none_of X G z_max,
    n_min := PySem.W.mg_none_of X G z_min,
    n_range := PySem.W.mg_none_of X G z_range,
    n_repr := PySem.W.mg_none_of X G z_repr,
    n_str := PySem.W.mg_none_of X G z_str,
    n_tuple := PySem.W.mg_none_of X G z_tuple,
    n_zip := PySem.W.mg_none_of X G z_zip } : Prg K mg)⟩
end
end Q81
open PySem PySem.W PyProof.Rows in
set_option maxRecDepth 100000 in
set_option maxHeartbeats 0 in
theorem PySem.Challenge.cw_slotfall_k81_texts_written_holds : PySem.Challenge.rw_slotfall_k81_texts_written.Holds := by
  w_on; o_law; k_head; (case hw => w_witness2)
  k_fill
  refine ML.walkM (l := PySem.Challenge.rw_slotfall_k81_texts_written) (n := 63) (k := 4) (x := "_law_script") (sp := Q81.sp_law) rfl (by decide) rfl ⟨rfl, by decide, by decide⟩ (fun w h Y => PySem.W.kIn_of Y) ?F Q81.start_law
  case F =>
    intro w mg fa h KX G hmg
    refine' Q81.all_mk KX G hmg ?a_joined ?l_joined ?c_joined ?k_joined ?a_line_of ?l_line_of ?c_line_of ?k_line_of ?a_format_heap ?l_format_heap ?c_format_heap ?k_format_heap ?a_format_tree ?l_format_tree ?c_format_tree ?k_format_tree ?a_format_log ?l_format_log ?c_format_log ?k_format_log ?a_pen ?l_pen ?c_pen ?k_pen ?a_draw ?l_draw ?c_draw ?k_draw ?a_order ?l_order ?c_order ?k_order ?a_size ?l_size ?c_size ?k_size ?a_links ?l_links ?c_links ?k_links ?a_heap ?l_heap ?c_heap ?k_heap ?a_children ?l_children ?c_children ?k_children ?a_heap_text ?l_heap_text ?c_heap_text ?k_heap_text ?a_numbers_text ?l_numbers_text ?c_numbers_text ?k_numbers_text ?a_tree_text ?l_tree_text ?c_tree_text ?k_tree_text ?a_right ?l_right ?c_right ?k_right ?a_law ?l_law ?c_law ?k_law ?z_abs ?z_enumerate ?z_int ?z_len ?z_list ?z_max ?z_min ?z_range ?z_repr ?z_str ?z_tuple ?z_zip
    (case a_joined => k_is)
    (case l_joined => k_is)
    (case c_joined => k_is)
    (case k_joined => k_is)
    (case a_line_of => k_is)
    (case l_line_of => k_is)
    (case c_line_of => k_is)
    (case k_line_of => k_is)
    (case a_format_heap => k_is)
    (case l_format_heap => k_is)
    (case c_format_heap => k_is)
    (case k_format_heap => k_is)
    (case a_format_tree => k_is)
    (case l_format_tree => k_is)
    (case c_format_tree => k_is)
    (case k_format_tree => k_is)
    (case a_format_log => k_is)
    (case l_format_log => k_is)
    (case c_format_log => k_is)
    (case k_format_log => k_is)
    (case a_pen => k_is)
    (case l_pen => k_is)
    (case c_pen => k_is)
    (case k_pen => k_is)
    (case a_draw => k_is)
    (case l_draw => k_is)
    (case c_draw => k_is)
    (case k_draw => k_is)
    (case a_order => k_is)
    (case l_order => k_is)
    (case c_order => k_is)
    (case k_order => k_is)
    (case a_size => k_is)
    (case l_size => k_is)
    (case c_size => k_is)
    (case k_size => k_is)
    (case a_links => k_is)
    (case l_links => k_is)
    (case c_links => k_is)
    (case k_links => k_is)
    (case a_heap => k_is)
    (case l_heap => k_is)
    (case c_heap => k_is)
    (case k_heap => k_is)
    (case a_children => k_is)
    (case l_children => k_is)
    (case c_children => k_is)
    (case k_children => k_is)
    (case a_heap_text => k_is)
    (case l_heap_text => k_is)
    (case c_heap_text => k_is)
    (case k_heap_text => k_is)
    (case a_numbers_text => k_is)
    (case l_numbers_text => k_is)
    (case c_numbers_text => k_is)
    (case k_numbers_text => k_is)
    (case a_tree_text => k_is)
    (case l_tree_text => k_is)
    (case c_tree_text => k_is)
    (case k_tree_text => k_is)
    (case a_right => k_is)
    (case l_right => k_is)
    (case c_right => k_is)
    (case k_right => k_is)
    (case a_law => k_is)
    (case l_law => k_is)
    (case c_law => k_is)
    (case k_law => k_is)
    (case z_abs => k_is)
    (case z_enumerate => k_is)
    (case z_int => k_is)
    (case z_len => k_is)
    (case z_list => k_is)
    (case z_max => k_is)
    (case z_min => k_is)
    (case z_range => k_is)
    (case z_repr => k_is)
    (case z_str => k_is)
    (case z_tuple => k_is)
    (case z_zip => k_is)
