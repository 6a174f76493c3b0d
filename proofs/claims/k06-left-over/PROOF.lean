import PyProof.Rows.All
import Wide.All
import OpenK.AllK
import Wide.FinOn
import HandS.ForMost
import HandS.Evl
import HandS.IsInst
import HandS.Wide
import HandS.EndBits
import HandS.Deep
import HandS.More
import HandS.TupAny
import HandS.SortInts
import HandS.SortKw
import PySem.Challenge.RW_rootroads_k06_left_over
set_option Elab.async false
set_option linter.all false
set_option maxRecDepth 100000
set_option maxHeartbeats 8000000
namespace RR
open PySem L2 Evl

/-! ### 1. Two heaps: B, what is known for good; H, what stands. -/
structure Stp (B H B' H' : Hp) : Prop where
  eb : Ex B B'
  eh : Ex H H'
  bh : Ex B' H'
  nw : ∀ b o, B' b = some o → B b = some o ∨ H b = none
theorem Stp.refl {B H : Hp} (x : Ex B H) : Stp B H B H := ⟨Ex.refl _, Ex.refl _, x, fun _ _ h => .inl h⟩
theorem Stp.trans {B H B1 H1 B2 H2 : Hp} (a : Stp B H B1 H1) (b : Stp B1 H1 B2 H2) : Stp B H B2 H2 :=
  ⟨a.eb.trans b.eb, a.eh.trans b.eh, b.bh, fun c o h => by
    rcases b.nw c o h with q | q
    · exact a.nw c o q
    · exact .inr (fresh_back a.eh q)⟩
theorem Stp.go {B H H1 : Hp} (x : Ex B H) (e : Ex H H1) : Stp B H B H1 := ⟨Ex.refl _, e, x.trans e, fun _ _ h => .inl h⟩
theorem Stp.goH {B0 H0 B H H1 : Hp} (s : Stp B0 H0 B H) (e : Ex H H1) : Stp B0 H0 B H1 := s.trans (Stp.go s.bh e)
theorem Stp.new {B H : Hp} (x : Ex B H) {p : Addr} {o : HO} (hp : H p = none) : Stp B H (upd B p o) (upd H p o) :=
  ⟨Ex.new (fresh_back x hp), Ex.new hp, fun a u h => by
    by_cases e : a = p
    · subst e
      rw [upd_same] at h ⊢
      exact h
    · rw [upd_ne e] at h ⊢
      exact x a u h, fun b u h => by
    by_cases e : b = p
    · subst e
      exact .inr hp
    · rw [upd_ne e] at h
      exact .inl h⟩
/-- the union of what is known -/
def jn (A B : Hp) : Hp := fun a => match A a with
  | some o => some o
  | none => B a
theorem jn_l {A B : Hp} : Ex A (jn A B) := fun a o h => by
  unfold jn
  rw [h]
theorem jn_h {A B H : Hp} (x : Ex A H) (y : Ex B H) : Ex (jn A B) H := fun a o h => by
  unfold jn at h
  cases e : A a with
  | some u =>
    rw [e] at h
    cases h
    exact x a _ e
  | none =>
    rw [e] at h
    exact y a _ h
theorem jn_r {A B H : Hp} (x : Ex A H) (y : Ex B H) : Ex B (jn A B) := fun a o h => by
  unfold jn
  cases e : A a with
  | some u =>
    have h1 := x a _ e
    rw [y a _ h] at h1
    exact h1.symm
  | none => exact h
/-- a step shown from less is a step from more -/
theorem Stp.join {B H B1 H1 B2 H2 H3 : Hp} (s : Stp B H B1 H1) (e : Ex H1 H2) (t : Stp B H2 B2 H3) : Stp B1 H2 (jn B1 B2) H3 :=
  ⟨jn_l, t.eh, jn_h ((s.bh.trans e).trans t.eh) t.bh, fun b o h => by
    unfold jn at h
    cases q : B1 b with
    | some u =>
      rw [q] at h
      cases h
      exact .inl rfl
    | none =>
      rw [q] at h
      rcases t.nw b o h with z | z
      · rw [s.eb b o z] at q
        cases q
      · exact .inr z⟩

/-- a thing of one's own, that changes: made behind H0, in no B -/
structure Cell (H0 B H : Hp) (p : Addr) (o : HO) : Prop where
  n : H0 p = none
  b : B p = none
  h : H p = some o
section
variable {B0 H0 B H B1 H1 : Hp} {p q : Addr} {o u v : HO}
theorem Cell.nb (c : Cell H0 B H p o) (s : Stp B H B1 H1) : B1 p = none := by
  cases e : B1 p with
  | none => rfl
  | some z =>
    rcases s.nw p z e with r | r
    · rw [c.b] at r
      cases r
    · rw [c.h] at r
      cases r
theorem Cell.up (c : Cell H0 B H p o) (s : Stp B H B1 H1) : Cell H0 B1 H1 p o := ⟨c.n, c.nb s, s.eh _ _ c.h⟩
theorem Cell.go (c : Cell H0 B H p o) (e : Ex H H1) : Cell H0 B H1 p o := ⟨c.n, c.b, e _ _ c.h⟩
theorem Cell.mut (c : Cell H0 B H p o) (s : Stp B0 H0 B H) : Stp B0 H0 B (upd H p u) :=
  ⟨s.eb, Ex.mut s.eh c.n, Ex.mut s.bh c.b, s.nw⟩
theorem Cell.same (c : Cell H0 B H p o) : Cell H0 B (upd H p u) p u := ⟨c.n, c.b, upd_same⟩
theorem Cell.other (c : Cell H0 B H p o) (ne : p ≠ q) : Cell H0 B (upd H q u) p o := ⟨c.n, c.b, by rw [upd_ne ne]; exact c.h⟩
theorem Cell.ne (c : Cell H0 B H p o) (d : Cell H0 B H q u) (h : o ≠ u) : p ≠ q := ne_of c.h d.h h
theorem Cell.neN (c : Cell H0 B H p o) (d : H q = none) : p ≠ q := ne_of_none c.h d
end

/-! ### 2. What a value stands for -/
structure Enc (α : Type) where
  R : Hp → V → α → Prop
  up : ∀ {H H' : Hp} {v : V} {x : α}, Ex H H' → R H v x → R H' v x
section
variable {α β γ : Type}
theorem pmap {R S : V → α → Prop} (h : ∀ v x, R v x → S v x) : ∀ {vs : List V} {xs : List α}, Paired R vs xs → Paired S vs xs
  | _, _, .nil => .nil
  | _, _, .cons r t => .cons (h _ _ r) (pmap h t)
theorem Enc.ups (E : Enc α) {H H' : Hp} (e : Ex H H') {vs : List V} {xs : List α} (h : Paired (E.R H) vs xs) : Paired (E.R H') vs xs := pmap (fun _ _ q => E.up e q) h
theorem pget {R : V → α → Prop} : ∀ {vs : List V} {xs : List α} {i : Nat} {x : α}, Paired R vs xs → xs[i]? = some x → ∃ v, vs[i]? = some v ∧ R v x
  | _, _, i, x, .nil, h => by simp at h
  | _, _, 0, x, .cons r t, h => by
    simp only [List.getElem?_cons_zero, Option.some.injEq] at h
    subst h
    exact ⟨_, rfl, r⟩
  | _, _, i + 1, x, .cons r t, h => by
    simp only [List.getElem?_cons_succ] at h ⊢
    exact pget t h
theorem pgetV {R : V → α → Prop} {vs : List V} {xs : List α} {i : Nat} {v : V} (p : Paired R vs xs) (h : vs[i]? = some v) : ∃ x, xs[i]? = some x ∧ R v x := by
  induction p generalizing i with
  | nil => simp at h
  | cons r t ih =>
    cases i with
    | zero =>
      simp only [List.getElem?_cons_zero, Option.some.injEq] at h
      subst h
      exact ⟨_, rfl, r⟩
    | succ i =>
      simp only [List.getElem?_cons_succ] at h ⊢
      exact ih h
theorem papp {R : V → α → Prop} : ∀ {vs ws : List V} {xs ys : List α}, Paired R vs xs → Paired R ws ys → Paired R (vs ++ ws) (xs ++ ys)
  | _, _, _, _, .nil, h => h
  | _, _, _, _, .cons r t, h => .cons r (papp t h)
theorem pdrop {R : V → α → Prop} : ∀ (n : Nat) {vs : List V} {xs : List α}, Paired R vs xs → Paired R (vs.drop n) (xs.drop n)
  | 0, _, _, h => h
  | n + 1, _, _, .nil => .nil
  | n + 1, _, _, .cons r t => pdrop n t
theorem ptake {R : V → α → Prop} : ∀ (n : Nat) {vs : List V} {xs : List α}, Paired R vs xs → Paired R (vs.take n) (xs.take n)
  | 0, _, _, h => .nil
  | n + 1, _, _, .nil => .nil
  | n + 1, _, _, .cons r t => .cons r (ptake n t)
theorem prev {R : V → α → Prop} : ∀ {vs : List V} {xs : List α}, Paired R vs xs → Paired R vs.reverse xs.reverse
  | _, _, .nil => .nil
  | _, _, .cons r t => by
    rw [List.reverse_cons, List.reverse_cons]
    exact papp (prev t) (.cons r .nil)
theorem pset {R : V → α → Prop} {v : V} {x : α} (r : R v x) : ∀ (i : Nat) {vs : List V} {xs : List α}, Paired R vs xs → Paired R (vs.set i v) (xs.set i x)
  | _, _, _, .nil => .nil
  | 0, _, _, .cons _ t => .cons r t
  | i + 1, _, _, .cons q t => .cons q (pset r i t)

def eI : Enc Int := ⟨fun _ v n => v = .int n, fun _ h => h⟩
def eB : Enc Bool := ⟨fun _ v b => v = .bl b, fun _ h => h⟩
def oV : Option Int → V
  | none => .non
  | some n => .int n
def eO : Enc (Option Int) := ⟨fun _ v o => v = oV o, fun _ h => h⟩
/-- any value, by itself -/
def eV : Enc V := ⟨fun _ v w => v = w, fun _ h => h⟩
def eL (E : Enc α) : Enc (List α) := ⟨fun H v xs => ∃ a vs, v = .ref a ∧ H a = some (.lst vs) ∧ Paired (E.R H) vs xs, fun e ⟨a, vs, h1, h2, h3⟩ => ⟨a, vs, h1, e _ _ h2, E.ups e h3⟩⟩
def eT (E : Enc α) : Enc (List α) := ⟨fun H v xs => ∃ a vs, v = .ref a ∧ H a = some (.tup vs) ∧ Paired (E.R H) vs xs, fun e ⟨a, vs, h1, h2, h3⟩ => ⟨a, vs, h1, e _ _ h2, E.ups e h3⟩⟩
def e2 (E : Enc α) (F : Enc β) : Enc (α × β) := ⟨fun H v x => ∃ a u w, v = .ref a ∧ H a = some (.tup [u, w]) ∧ E.R H u x.1 ∧ F.R H w x.2, fun e ⟨a, u, w, h1, h2, h3, h4⟩ => ⟨a, u, w, h1, e _ _ h2, E.up e h3, F.up e h4⟩⟩
def e3 (E : Enc α) (F : Enc β) (G : Enc γ) : Enc (α × β × γ) := ⟨fun H v x => ∃ a u w z, v = .ref a ∧ H a = some (.tup [u, w, z]) ∧ E.R H u x.1 ∧ F.R H w x.2.1 ∧ G.R H z x.2.2,
  fun e ⟨a, u, w, z, h1, h2, h3, h4, h5⟩ => ⟨a, u, w, z, h1, e _ _ h2, E.up e h3, F.up e h4, G.up e h5⟩⟩
/-- a tuple that begins with two ints -/
def eH : Enc (Int × Int) := ⟨fun H v x => ∃ a r, v = .ref a ∧ H a = some (.tup (.int x.1 :: .int x.2 :: r)), fun e ⟨a, r, h1, h2⟩ => ⟨a, r, h1, e _ _ h2⟩⟩
/-- a dict by its int keys -/
def eD : Enc (List Int) := ⟨fun H v ks => ∃ a kvs, v = .ref a ∧ H a = some (.dK kvs) ∧ kvs.map (·.1) = ks.map Sum.inl, fun e ⟨a, kvs, h1, h2, h3⟩ => ⟨a, kvs, h1, e _ _ h2, h3⟩⟩
abbrev Road := Int × Int × Int
abbrev eR : Enc Road := e3 eI eI eI
theorem pI {H : Hp} : ∀ {vs : List V} {ns : List Int}, Paired (eI.R H) vs ns → vs = ns.map V.int
  | _, _, .nil => rfl
  | _, _, .cons r t => by
    rw [pI t, show _ = V.int _ from r]
    rfl
theorem pI' {H : Hp} : ∀ (ns : List Int), Paired (eI.R H) (ns.map V.int) ns
  | [] => .nil
  | _ :: r => .cons rfl (pI' r)
theorem pO {H : Hp} : ∀ {vs : List V} {ns : List (Option Int)}, Paired (eO.R H) vs ns → vs = ns.map oV
  | _, _, .nil => rfl
  | _, _, .cons r t => by
    rw [pO t, show _ = oV _ from r]
    rfl
theorem pO' {H : Hp} : ∀ (ns : List (Option Int)), Paired (eO.R H) (ns.map oV) ns
  | [] => .nil
  | _ :: r => .cons rfl (pO' r)
theorem eLI {H : Hp} {v : V} {ns : List Int} (h : (eL eI).R H v ns) : ∃ a, v = .ref a ∧ H a = some (.lst (ns.map V.int)) := by
  obtain ⟨a, vs, h1, h2, h3⟩ := h
  rw [pI h3] at h2
  exact ⟨a, h1, h2⟩
theorem eTI {H : Hp} {v : V} {ns : List Int} (h : (eT eI).R H v ns) : ∃ a, v = .ref a ∧ H a = some (.tup (ns.map V.int)) := by
  obtain ⟨a, vs, h1, h2, h3⟩ := h
  rw [pI h3] at h2
  exact ⟨a, h1, h2⟩
theorem eR_H {H : Hp} {v : V} {r : Road} (h : eR.R H v r) : eH.R H v (r.1, r.2.1) := by
  obtain ⟨a, u, w, z, h1, h2, h3, h4, h5⟩ := h
  cases h3
  cases h4
  exact ⟨a, [z], h1, h2⟩
theorem eRs_H {H : Hp} {v : V} {rs : List Road} (h : (eL eR).R H v rs) : (eL eH).R H v (rs.map fun r => (r.1, r.2.1)) := by
  obtain ⟨a, vs, h1, h2, h3⟩ := h
  refine ⟨a, vs, h1, h2, ?_⟩
  clear h1 h2
  induction h3 with
  | nil => exact .nil
  | cons r t ih => exact .cons (eR_H r) ih
end

/-! ### 3. What an expression tells: EvS (a value that stands for some x with S x), EvM (a new list of one's own) -/
section
variable {α β γ δ ε : Type} {E : Enc α} {F : Enc β} {G : Enc γ}
def EvS (E : Enc α) (te : TE) (σ : L2.St) (B H : Hp) (S : α → Prop) : Prop := ∀ H1, Ex H H1 → ∀ Q : VK, (∀ v x B2 H2, Stp B H1 B2 H2 → S x → E.R B2 v x → Q v H2) → te σ H1 Q
abbrev EvE (E : Enc α) (te : TE) (σ : L2.St) (B H : Hp) (x : α) : Prop := EvS E te σ B H (fun y => y = x)
/-- a new list, known to none: it may be changed -/
def EvM (E : Enc α) (te : TE) (σ : L2.St) (B H : Hp) (S : List α → Prop) : Prop := ∀ H1, Ex H H1 → ∀ Q : VK, (∀ p vs xs B2 H2, Stp B H1 B2 H2 → H1 p = none → B2 p = none → H2 p = some (.lst vs) → S xs → Paired (E.R B2) vs xs → Q (.ref p) H2) → te σ H1 Q
variable {te ta tb tc : TE} {tt : TT} {σ : L2.St} {B H B1 H1 : Hp} {S : α → Prop} {T : β → Prop} {K : PySem.W.Frag}
theorem EvS.up (h : EvS E te σ B H S) (s : Stp B H B1 H1) : EvS E te σ B1 H1 S := fun H2 e Q k =>
  h H2 (s.eh.trans e) Q fun v x B2 H3 t hS hR => k v x (jn B1 B2) H3 (s.join e t) hS (E.up (jn_r ((s.bh.trans e).trans t.eh) t.bh) hR)
theorem EvM.up {S : List α → Prop} (h : EvM E te σ B H S) (s : Stp B H B1 H1) : EvM E te σ B1 H1 S := fun H2 e Q k =>
  h H2 (s.eh.trans e) Q fun p vs xs B2 H3 t hp bp hl hS hR => k p vs xs (jn B1 B2) H3 (s.join e t) hp (by
    have q : B1 p = none := fresh_back (s.bh.trans e) hp
    unfold jn
    rw [q]
    exact bp) hl hS (E.ups (jn_r ((s.bh.trans e).trans t.eh) t.bh) hR)
theorem EvM.s {S : List α → Prop} (h : EvM E te σ B H S) : EvS (eL E) te σ B H S := fun H2 e Q k =>
  h H2 e Q fun p vs xs B2 H3 t hp bp hl hS hR => k (.ref p) xs (upd B2 p (.lst vs)) H3 ⟨t.eb.trans (Ex.new bp), t.eh, fun a u q => by
    by_cases z : a = p
    · subst z
      rw [upd_same] at q
      cases q
      exact hl
    · rw [upd_ne z] at q
      exact t.bh a u q, fun a u q => by
    by_cases z : a = p
    · subst z
      exact .inr hp
    · rw [upd_ne z] at q
      exact t.nw a u q⟩ hS ⟨p, vs, rfl, upd_same, E.ups (Ex.new bp) hR⟩
theorem EvS.imp {S' : α → Prop} (h : EvS E te σ B H S) (i : ∀ x, S x → S' x) : EvS E te σ B H S' := fun H1 e Q k => h H1 e Q fun v x B2 H2 t hS hR => k v x B2 H2 t (i x hS) hR
theorem EvM.imp {S S' : List α → Prop} (h : EvM E te σ B H S) (i : ∀ x, S x → S' x) : EvM E te σ B H S' := fun H1 e Q k => h H1 e Q fun p vs xs B2 H2 t a b c hS hR => k p vs xs B2 H2 t a b c (i xs hS) hR
theorem EvE.to {x y : α} (h : EvE E te σ B H x) (e : x = y) : EvE E te σ B H y := e ▸ h
theorem EvS.conv {T : α → Prop} {E' : Enc β} {T' : β → Prop} (h : EvS E te σ B H T) (i : ∀ B v x, T x → E.R B v x → ∃ y, T' y ∧ E'.R B v y) : EvS E' te σ B H T' := fun H1 e Q k =>
  h H1 e Q fun v x B2 H2 t hS hR => by
    obtain ⟨y, a, b⟩ := i B2 v x hS hR
    exact k v y B2 H2 t a b
/-- scalars -/
theorem es_ev {v : V} {x : α} (x0 : Ex B H) (h : Ev te σ H v) (r : E.R B v x) : EvE E te σ B H x := fun H1 e Q k => h H1 e Q fun H2 e2 => k v x B H2 (Stp.go (x0.trans e) e2) rfl r
theorem es_evI {n : Int} (x0 : Ex B H) (h : Ev te σ H (.int n)) : EvE eI te σ B H n := es_ev x0 h rfl
theorem es_evB {b : Bool} (x0 : Ex B H) (h : Ev te σ H (.bl b)) : EvE eB te σ B H b := es_ev x0 h rfl
theorem ev_sI {n : Int} (h : EvE eI te σ B H n) : Ev te σ H (.int n) := fun H1 e Q k => h H1 e Q fun v x B2 H2 t hS hR => by
  cases hS
  cases hR
  exact k H2 t.eh
theorem ev_sB {b : Bool} (h : EvE eB te σ B H b) : Ev te σ H (.bl b) := fun H1 e Q k => h H1 e Q fun v x B2 H2 t hS hR => by
  cases hS
  cases hR
  exact k H2 t.eh
theorem ev_sO {o : Option Int} (h : EvE eO te σ B H o) : Ev te σ H (oV o) := fun H1 e Q k => h H1 e Q fun v x B2 H2 t hS hR => by
  cases hS
  cases hR
  exact k H2 t.eh
theorem et_sT {b : Bool} (h : EvE eB te σ B H b) : EvT (tTest te) σ H b := et_test (ev_sB h)
theorem et_sB {b : Bool} (h : EvE eB te σ B H b) : EvT (tB te) σ H b := et_B (ev_sB h)

theorem es_var {i : Nat} {v : V} {x : α} (x0 : Ex B H) (h : σ[i]? = some (some v)) (r : E.R B v x) : EvE E (tVar i) σ B H x := es_ev x0 (ev_var h) r
theorem es_varI {i : Nat} {n : Int} (x0 : Ex B H) (h : σ[i]? = some (some (.int n))) : EvE eI (tVar i) σ B H n := es_ev x0 (ev_var h) rfl
theorem es_int {n : Int} (x0 : Ex B H) : EvE eI (tC (.int n)) σ B H n := es_ev x0 ev_c rfl
theorem es_bl {b : Bool} (x0 : Ex B H) : EvE eB (tC (.bl b)) σ B H b := es_ev x0 ev_c rfl
theorem es_non (x0 : Ex B H) : EvE eO (tC .non) σ B H none := es_ev x0 ev_c rfl

/-- two parts, then an operation on what they stand for -/
theorem es_opG {r : R2} {x : α} {y : β} {P : γ → Prop} (x0 : Ex B H) (ha : EvE E ta σ B H x) (hb : EvE F tb σ B H y)
    (hr : ∀ v w B2 H2, Ex B2 H2 → E.R B2 v x → F.R B2 w y → ∀ Q : VK, (∀ z c B3 H3, Stp B2 H2 B3 H3 → P c → G.R B3 z c → Q z H3) → r v w H2 Q) : EvS G (tOp r ta tb) σ B H P := fun H1 e Q k =>
  ha H1 e _ fun v x' B2 H2 t hx hR => by
    cases hx
    exact hb.up ((Stp.go x0 e).trans t) H2 (Ex.refl _) _ fun w y' B3 H3 t2 hy hR2 => by
      cases hy
      exact hr v w B3 H3 t2.bh (E.up t2.eb hR) hR2 Q fun z c B4 H4 t3 hc hz => k z c B4 H4 ((t.trans t2).trans t3) hc hz
theorem es_op {r : R2} {x : α} {y : β} {c : γ} (x0 : Ex B H) (ha : EvE E ta σ B H x) (hb : EvE F tb σ B H y)
    (hr : ∀ v w B2 H2, Ex B2 H2 → E.R B2 v x → F.R B2 w y → ∃ z, G.R B2 z c ∧ ∀ Q : VK, Q z H2 → r v w H2 Q) : EvE G (tOp r ta tb) σ B H c :=
  es_opG x0 ha hb fun v w B2 H2 x2 hv hw Q k => by
    obtain ⟨z, hz, q⟩ := hr v w B2 H2 x2 hv hw
    exact q Q (k z c B2 H2 (Stp.refl x2) rfl hz)
theorem es_opI {g : Int → Int → Int} {x y : Int} (x0 : Ex B H) (ha : EvE eI ta σ B H x) (hb : EvE eI tb σ B H y) : EvE eI (tOp (rI0 fun i j => .int (g i j)) ta tb) σ B H (g x y) :=
  es_op x0 ha hb fun v w B2 H2 _ hv hw => ⟨_, rfl, fun Q q => ⟨x, y, hv, hw, q⟩⟩
theorem es_opB {g : Int → Int → Bool} {x y : Int} (x0 : Ex B H) (ha : EvE eI ta σ B H x) (hb : EvE eI tb σ B H y) : EvE eB (tOp (rI0 fun i j => .bl (g i j)) ta tb) σ B H (g x y) :=
  es_op x0 ha hb fun v w B2 H2 _ hv hw => ⟨_, rfl, fun Q q => ⟨x, y, hv, hw, q⟩⟩
theorem es_opC {C : Int → Int → Prop} {g : Int → Int → Int} {x y : Int} (x0 : Ex B H) (ha : EvE eI ta σ B H x) (hb : EvE eI tb σ B H y) (hc : C x y) : EvE eI (tOp (rI C fun i j => .int (g i j)) ta tb) σ B H (g x y) :=
  es_op x0 ha hb fun v w B2 H2 _ hv hw => ⟨_, rfl, fun Q q => ⟨x, y, hv, hw, hc, q⟩⟩
theorem es_neg {x : Int} (ha : EvE eI ta σ B H x) : EvE eI (tUn (rU fun i => .int (-i)) ta) σ B H (-x) := fun H1 e Q k =>
  ha H1 e _ fun v x' B2 H2 t hx hR => by
    cases hx
    exact ⟨x, hR, k _ _ B2 H2 t rfl rfl⟩
theorem dec_int (x y : Int) : decide (V.int x = V.int y) = decide (x = y) := by
  by_cases h : x = y
  · subst h
    simp
  · rw [decide_eq_false h, decide_eq_false fun q => h (V.int.inj q)]
theorem dec_bl (x y : Bool) : decide (V.bl x = V.bl y) = decide (x = y) := by
  by_cases h : x = y
  · subst h
    simp
  · rw [decide_eq_false h, decide_eq_false fun q => h (V.bl.inj q)]
theorem es_eqI {x y : Int} (x0 : Ex B H) (ha : EvE eI ta σ B H x) (hb : EvE eI tb σ B H y) : EvE eB (tOp rEq ta tb) σ B H (decide (x = y)) :=
  es_op x0 ha hb fun v w B2 H2 _ hv hw => ⟨_, rfl, fun Q q => by
    cases hv
    cases hw
    exact ⟨rfl, by rw [dec_int]; exact q⟩⟩
theorem es_neI {x y : Int} (x0 : Ex B H) (ha : EvE eI ta σ B H x) (hb : EvE eI tb σ B H y) : EvE eB (tOp rNe ta tb) σ B H (!decide (x = y)) :=
  es_op x0 ha hb fun v w B2 H2 _ hv hw => ⟨_, rfl, fun Q q => by
    cases hv
    cases hw
    exact ⟨rfl, by rw [dec_int]; exact q⟩⟩
theorem es_eqB {x y : Bool} (x0 : Ex B H) (ha : EvE eB ta σ B H x) (hb : EvE eB tb σ B H y) : EvE eB (tOp rEq ta tb) σ B H (decide (x = y)) :=
  es_op x0 ha hb fun v w B2 H2 _ hv hw => ⟨_, rfl, fun Q q => by
    cases hv
    cases hw
    exact ⟨rfl, by rw [dec_bl]; exact q⟩⟩
theorem es_neB {x y : Bool} (x0 : Ex B H) (ha : EvE eB ta σ B H x) (hb : EvE eB tb σ B H y) : EvE eB (tOp rNe ta tb) σ B H (!decide (x = y)) :=
  es_op x0 ha hb fun v w B2 H2 _ hv hw => ⟨_, rfl, fun Q q => by
    cases hv
    cases hw
    exact ⟨rfl, by rw [dec_bl]; exact q⟩⟩
theorem non_oV (o : Option Int) : decide (oV o = V.non) = o.isNone := by
  cases o with
  | none => rfl
  | some n => exact decide_eq_false fun q => nomatch q
theorem es_isNO {o : Option Int} (x0 : Ex B H) (ha : EvE eO ta σ B H o) : EvE eB (tOp (fun x y H Q => y = V.non ∧ Q (.bl (decide (x = .non))) H) ta (tC .non)) σ B H o.isNone :=
  es_op x0 ha (es_non x0) fun v w B2 H2 _ hv hw => ⟨_, rfl, fun Q q => by
    cases hv
    cases hw
    exact ⟨rfl, by rw [non_oV]; exact q⟩⟩
theorem es_notNO {o : Option Int} (x0 : Ex B H) (ha : EvE eO ta σ B H o) : EvE eB (tOp (fun x y H Q => y = V.non ∧ Q (.bl (!decide (x = .non))) H) ta (tC .non)) σ B H (!o.isNone) :=
  es_op x0 ha (es_non x0) fun v w B2 H2 _ hv hw => ⟨_, rfl, fun Q q => by
    cases hv
    cases hw
    exact ⟨rfl, by rw [non_oV]; exact q⟩⟩

/-! chains a < b < c -/
theorem es_chain {r r' : R2} {x : α} {y : β} {z : γ} {b1 b2 : Bool} (x0 : Ex B H) (ha : EvE E ta σ B H x) (hb : EvE F tb σ B H y) (hc : EvE G tc σ B H z)
    (hr : ∀ v w B2 H2, E.R B2 v x → F.R B2 w y → ∀ Q : VK, Q (.bl b1) H2 → r v w H2 Q) (hr' : ∀ v w B2 H2, F.R B2 v y → G.R B2 w z → ∀ Q : VK, Q (.bl b2) H2 → r' v w H2 Q) :
    EvE eB (tChain r r' ta tb tc) σ B H (b1 && b2) := fun H1 e Q k =>
  ha H1 e _ fun v x' B2 H2 t hx hR => by
    cases hx
    exact hb.up ((Stp.go x0 e).trans t) H2 (Ex.refl _) _ fun w y' B3 H3 t2 hy hR2 => by
      cases hy
      refine hr v w B3 H3 (E.up t2.eb hR) hR2 _ ⟨b1, rfl, ?_⟩
      cases b1 with
      | false => exact iteF (k _ _ B3 H3 (t.trans t2) rfl rfl)
      | true =>
        refine iteT (hc.up (((Stp.go x0 e).trans t).trans t2) H3 (Ex.refl _) _ fun w2 z' B4 H4 t3 hz hR3 => ?_)
        cases hz
        exact hr' w w2 B4 H4 (F.up t3.eb hR2) hR3 _ (k _ _ B4 H4 ((t.trans t2).trans t3) rfl rfl)

/-! ### places of lists and tuples -/
theorem atI_of {ξ : Type} {xs : List ξ} {i : Int} {x : ξ} (h0 : 0 ≤ i) (h : xs[i.toNat]? = some x) : atI xs i = some x := by
  have e : ((i.toNat : Nat) : Int) = i := Int.toNat_of_nonneg h0
  rw [← e]
  exact atI_nat h
theorem es_ixL {xs : List α} {i : Int} {x : α} (x0 : Ex B H) (ha : EvE (eL E) ta σ B H xs) (hb : EvE eI tb σ B H i) (h0 : 0 ≤ i) (hx : xs[i.toNat]? = some x) : EvE E (tOp (rIxL K) ta tb) σ B H x :=
  es_op x0 ha hb fun v w B2 H2 x2 hv hw => by
    obtain ⟨a, vs, h1, h2, h3⟩ := hv
    obtain ⟨u, h4, h5⟩ := pget h3 hx
    exact ⟨u, h5, fun Q q => ⟨a, vs, i, u, h1, hw, SqL.of (x2 _ _ h2), atI_of h0 h4, q⟩⟩
theorem es_ixT {xs : List α} {i : Int} {x : α} (x0 : Ex B H) (ha : EvE (eT E) ta σ B H xs) (hb : EvE eI tb σ B H i) (h0 : 0 ≤ i) (hx : xs[i.toNat]? = some x) : EvE E (tOp (rIxT K) ta tb) σ B H x :=
  es_op x0 ha hb fun v w B2 H2 x2 hv hw => by
    obtain ⟨a, vs, h1, h2, h3⟩ := hv
    obtain ⟨u, h4, h5⟩ := pget h3 hx
    exact ⟨u, h5, fun Q q => ⟨a, vs, i, u, h1, hw, SqT.of (x2 _ _ h2), atI_of h0 h4, q⟩⟩
theorem es_tix {E' : Enc δ} {t : δ} {i : Nat} {x : α} (x0 : Ex B H) (ha : EvE E' ta σ B H t) (hx : ∀ B2 v, E'.R B2 v t → ∃ a us u, v = .ref a ∧ B2 a = some (.tup us) ∧ us[i]? = some u ∧ E.R B2 u x) : EvE E (tOp (rIxT K) ta (tC (.int (i : Int)))) σ B H x :=
  es_op x0 ha (es_int x0) fun v w B2 H2 x2 hv hw => by
    obtain ⟨a, us, u, h1, h2, h3, h4⟩ := hx B2 v hv
    exact ⟨u, h4, fun Q q => ⟨a, us, (i : Int), u, h1, hw, SqT.of (x2 _ _ h2), atI_nat h3, q⟩⟩
theorem es_20 {t : α × β} (x0 : Ex B H) (ha : EvE (e2 E F) ta σ B H t) : EvE E (tOp (rIxT K) ta (tC (.int 0))) σ B H t.1 := es_tix (i := 0) x0 ha fun B2 v ⟨a, u, w, h1, h2, h3, h4⟩ => ⟨a, _, u, h1, h2, rfl, h3⟩
theorem es_21 {t : α × β} (x0 : Ex B H) (ha : EvE (e2 E F) ta σ B H t) : EvE F (tOp (rIxT K) ta (tC (.int 1))) σ B H t.2 := es_tix (i := 1) x0 ha fun B2 v ⟨a, u, w, h1, h2, h3, h4⟩ => ⟨a, _, w, h1, h2, rfl, h4⟩
theorem es_30 {t : α × β × γ} (x0 : Ex B H) (ha : EvE (e3 E F G) ta σ B H t) : EvE E (tOp (rIxT K) ta (tC (.int 0))) σ B H t.1 := es_tix (i := 0) x0 ha fun B2 v ⟨a, u, w, z, h1, h2, h3, h4, h5⟩ => ⟨a, _, u, h1, h2, rfl, h3⟩
theorem es_31 {t : α × β × γ} (x0 : Ex B H) (ha : EvE (e3 E F G) ta σ B H t) : EvE F (tOp (rIxT K) ta (tC (.int 1))) σ B H t.2.1 := es_tix (i := 1) x0 ha fun B2 v ⟨a, u, w, z, h1, h2, h3, h4, h5⟩ => ⟨a, _, w, h1, h2, rfl, h4⟩
theorem es_32 {t : α × β × γ} (x0 : Ex B H) (ha : EvE (e3 E F G) ta σ B H t) : EvE G (tOp (rIxT K) ta (tC (.int 2))) σ B H t.2.2 := es_tix (i := 2) x0 ha fun B2 v ⟨a, u, w, z, h1, h2, h3, h4, h5⟩ => ⟨a, _, z, h1, h2, rfl, h5⟩
theorem es_H0 {t : Int × Int} (x0 : Ex B H) (ha : EvE eH ta σ B H t) : EvE eI (tOp (rIxT K) ta (tC (.int 0))) σ B H t.1 := es_tix (i := 0) x0 ha fun B2 v ⟨a, r, h1, h2⟩ => ⟨a, _, _, h1, h2, rfl, rfl⟩
theorem es_H1 {t : Int × Int} (x0 : Ex B H) (ha : EvE eH ta σ B H t) : EvE eI (tOp (rIxT K) ta (tC (.int 1))) σ B H t.2 := es_tix (i := 1) x0 ha fun B2 v ⟨a, r, h1, h2⟩ => ⟨a, _, _, h1, h2, rfl, rfl⟩

/-! ### in -/
theorem eqV_int (x y : Int) : eqV (V.int x) (V.int y) = decide (x = y) := by
  unfold eqV
  first
    | rfl
    | (by_cases h : x = y <;> simp [h])
theorem inV_ints (x : Int) : ∀ ns : List Int, inV (V.int x) (ns.map V.int) = decide (x ∈ ns)
  | [] => by simp [inV]
  | n :: r => by
    have ih := inV_ints x r
    unfold inV at ih ⊢
    rw [List.map_cons, List.any_cons, ih, eqV_int]
    by_cases h : n = x
    · subst h
      simp
    · have h' : ¬ x = n := fun q => h q.symm
      simp [h, h']
theorem flat_ints : ∀ ns : List Int, (ns.map V.int).all flatV = true
  | [] => rfl
  | _ :: r => by
    rw [List.map_cons, List.all_cons, flat_ints r]
    rfl
theorem es_inT {x : Int} {ns : List Int} (x0 : Ex B H) (ha : EvE eI ta σ B H x) (hb : EvE (eT eI) tb σ B H ns) : EvE eB (tOp (rIn K false) ta tb) σ B H (decide (x ∈ ns)) :=
  es_op x0 ha hb fun v w B2 H2 x2 hv hw => ⟨_, rfl, fun Q q => by
    cases hv
    obtain ⟨a, h1, h2⟩ := eTI hw
    exact ⟨a, _, h1, .inr (SqT.of (x2 _ _ h2)), rfl, flat_ints ns, by rw [inV_ints]; exact q⟩⟩
theorem es_ninT {x : Int} {ns : List Int} (x0 : Ex B H) (ha : EvE eI ta σ B H x) (hb : EvE (eT eI) tb σ B H ns) : EvE eB (tOp (rIn K true) ta tb) σ B H (!decide (x ∈ ns)) :=
  es_op x0 ha hb fun v w B2 H2 x2 hv hw => ⟨_, rfl, fun Q q => by
    cases hv
    obtain ⟨a, h1, h2⟩ := eTI hw
    exact ⟨a, _, h1, .inr (SqT.of (x2 _ _ h2)), rfl, flat_ints ns, by rw [inV_ints]; exact q⟩⟩
theorem es_inL {x : Int} {ns : List Int} (x0 : Ex B H) (ha : EvE eI ta σ B H x) (hb : EvE (eL eI) tb σ B H ns) : EvE eB (tOp (rIn K false) ta tb) σ B H (decide (x ∈ ns)) :=
  es_op x0 ha hb fun v w B2 H2 x2 hv hw => ⟨_, rfl, fun Q q => by
    cases hv
    obtain ⟨a, h1, h2⟩ := eLI hw
    exact ⟨a, _, h1, .inl (SqL.of (x2 _ _ h2)), rfl, flat_ints ns, by rw [inV_ints]; exact q⟩⟩
theorem es_ninL {x : Int} {ns : List Int} (x0 : Ex B H) (ha : EvE eI ta σ B H x) (hb : EvE (eL eI) tb σ B H ns) : EvE eB (tOp (rIn K true) ta tb) σ B H (!decide (x ∈ ns)) :=
  es_op x0 ha hb fun v w B2 H2 x2 hv hw => ⟨_, rfl, fun Q q => by
    cases hv
    obtain ⟨a, h1, h2⟩ := eLI hw
    exact ⟨a, _, h1, .inl (SqL.of (x2 _ _ h2)), rfl, flat_ints ns, by rw [inV_ints]; exact q⟩⟩
/-- a dict's keys -/
theorem val_keys {x : Int} : ∀ {kvs : List (Key × V)} {ks : List Int}, kvs.map (·.1) = ks.map Sum.inl → (valV kvs (Sum.inl x)).isSome = decide (x ∈ ks)
  | [], [], _ => rfl
  | [], _ :: _, h => by cases h
  | _ :: _, [], h => by cases h
  | p :: r, k :: ks, h => by
    rw [List.map_cons, List.map_cons] at h
    obtain ⟨h1, h2⟩ := List.cons.inj h
    have ih := val_keys (x := x) h2
    by_cases e : k = x
    · subst e
      rw [valV_pos h1]
      simp
    · have e' : ¬ p.1 = Sum.inl x := fun q => e (Sum.inl.inj (h1.symm.trans q))
      have e2 : ¬ x = k := fun q => e q.symm
      rw [valV_neg e', ih]
      simp [e2]
theorem es_din {x : Int} {ks : List Int} (x0 : Ex B H) (ha : EvE eI ta σ B H x) (hb : EvE eD tb σ B H ks) : EvE eB (tDIn ta tb) σ B H (decide (x ∈ ks)) := fun H1 e Q k =>
  ha H1 e _ fun v x' B2 H2 t hx hR => by
    cases hx
    exact hb.up ((Stp.go x0 e).trans t) H2 (Ex.refl _) _ fun w y' B3 H3 t2 hy hR2 => by
      cases hy
      cases hR
      obtain ⟨a, kvs, h1, h2, h3⟩ := hR2
      exact ⟨a, _, h1, DGet.k (k := Sum.inl x) (t2.bh _ _ h2), by rw [val_keys h3]; exact k _ _ B3 H3 (t.trans t2) rfl rfl⟩
theorem es_dnotin {x : Int} {ks : List Int} (x0 : Ex B H) (ha : EvE eI ta σ B H x) (hb : EvE eD tb σ B H ks) : EvE eB (tDNotIn ta tb) σ B H (!decide (x ∈ ks)) := fun H1 e Q k =>
  ha H1 e _ fun v x' B2 H2 t hx hR => by
    cases hx
    exact hb.up ((Stp.go x0 e).trans t) H2 (Ex.refl _) _ fun w y' B3 H3 t2 hy hR2 => by
      cases hy
      cases hR
      obtain ⟨a, kvs, h1, h2, h3⟩ := hR2
      exact ⟨a, _, h1, DGet.k (k := Sum.inl x) (t2.bh _ _ h2), by rw [val_keys h3]; exact k _ _ B3 H3 (t.trans t2) rfl rfl⟩

/-! ### arguments, displays -/
def aN : Hp → List V → Prop := fun _ vs => vs = []
def aC (E : Enc α) (S : α → Prop) (A : Hp → List V → Prop) : Hp → List V → Prop := fun B vs => ∃ v x r, vs = v :: r ∧ S x ∧ E.R B v x ∧ A B r
def EvAr (ta : TA) (σ : L2.St) (B H : Hp) (A : Hp → List V → Prop) : Prop := ∀ H1, Ex H H1 → ∀ Q : List V → Hp → Prop, (∀ vs B2 H2, Stp B H1 B2 H2 → A B2 vs → Q vs H2) → ta σ H1 Q
def MonoA (A : Hp → List V → Prop) : Prop := ∀ (B B' : Hp) (vs : List V), Ex B B' → A B vs → A B' vs
theorem mono_aN : MonoA aN := fun _ _ _ _ h => h
theorem mono_aC {A : Hp → List V → Prop} (m : MonoA A) : MonoA (aC E S A) := fun _ _ _ e ⟨v, x, r, h1, h2, h3, h4⟩ => ⟨v, x, r, h1, h2, E.up e h3, m _ _ _ e h4⟩
variable {ar : TA} {A : Hp → List V → Prop}
theorem ea_n (x0 : Ex B H) : EvAr tNil σ B H aN := fun H1 e Q k => k [] B H1 (Stp.refl (x0.trans e)) rfl
theorem ea_c (x0 : Ex B H) (m : MonoA A) (h : EvS E te σ B H S) (hr : EvAr ar σ B H A) : EvAr (tCons te ar) σ B H (aC E S A) := fun H1 e Q k =>
  h H1 e _ fun v x B2 H2 t hS hR => by
    have s := (Stp.go x0 e).trans t
    exact hr H2 s.eh _ fun vs B3 H3 t2 hA => k (v :: vs) (jn B2 B3) H3 (t.trans (s.join (Ex.refl _) t2)) ⟨v, x, vs, rfl, hS, E.up jn_l hR, m _ _ _ (jn_r ((t.bh.trans t2.eh)) t2.bh) hA⟩
/-- all of one kind, exactly -/
theorem ea_nil' (x0 : Ex B H) : EvAr tNil σ B H (fun B vs => Paired (E.R B) vs ([] : List α)) := fun H1 e Q k => k [] B H1 (Stp.refl (x0.trans e)) .nil
theorem ea_cons' {x : α} {xs : List α} (x0 : Ex B H) (h : EvE E te σ B H x) (hr : EvAr ar σ B H (fun B vs => Paired (E.R B) vs xs)) : EvAr (tCons te ar) σ B H (fun B vs => Paired (E.R B) vs (x :: xs)) := fun H1 e Q k =>
  h H1 e _ fun v x B2 H2 t hS hR => by
    cases hS
    have s := (Stp.go x0 e).trans t
    exact hr H2 s.eh _ fun vs B3 H3 t2 hA => k (v :: vs) (jn B2 B3) H3 (t.trans (s.join (Ex.refl _) t2)) (.cons (E.up jn_l hR) (E.ups (jn_r ((t.bh.trans t2.eh)) t2.bh) hA))
theorem pl {R : V → α → Prop} {vs : List V} {xs : List α} (p : Paired R vs xs) : vs.length = xs.length := Paired.length p
theorem em_lst {xs : List α} (h : EvAr ar σ B H (fun B vs => Paired (E.R B) vs xs)) (hz : xs.length ≤ 100000) : EvM E (tLst ar) σ B H (fun ys => ys = xs) := fun H1 e Q k =>
  h H1 e _ fun vs B2 H2 t hA => ⟨sz_of (by rw [pl hA]; exact hz), fun p hp => k p vs xs B2 _ (t.trans (Stp.go t.bh (Ex.new hp))) (fresh_back t.eh hp) (fresh_back t.bh hp) upd_same rfl hA⟩
theorem em_nil (x0 : Ex B H) : EvM E (tLst tNil) σ B H (fun ys => ys = []) := em_lst (ea_nil' x0) (Nat.zero_le _)
theorem es_tupT {xs : List α} (h : EvAr ar σ B H (fun B vs => Paired (E.R B) vs xs)) (hz : xs.length ≤ 100000) : EvE (eT E) (tTup ar) σ B H xs := fun H1 e Q k =>
  h H1 e _ fun vs B2 H2 t hA => ⟨sz_of (by rw [pl hA]; exact hz), fun p hp => k (.ref p) xs (upd B2 p (.tup vs)) _ (t.trans (Stp.new t.bh hp)) rfl ⟨p, vs, rfl, upd_same, E.ups (Ex.new (fresh_back t.bh hp)) hA⟩⟩
theorem es_tup2 {T : β → Prop} (x0 : Ex B H) (ha : EvS E ta σ B H S) (hb : EvS F tb σ B H T) : EvS (e2 E F) (tTup (tCons ta (tCons tb tNil))) σ B H (fun p => S p.1 ∧ T p.2) := fun H1 e Q k =>
  ea_c (S := S) x0 (mono_aC mono_aN) ha (ea_c (S := T) x0 mono_aN hb (ea_n x0)) H1 e _ fun vs B2 H2 t hA => by
    obtain ⟨v, x, r, rfl, hS, hx, w, y, r', rfl, hT, hy, rfl⟩ := hA
    exact ⟨by show 2 ≤ sizeLine; decide, fun p hp => k (.ref p) (x, y) (upd B2 p (.tup [v, w])) _ (t.trans (Stp.new t.bh hp)) ⟨hS, hT⟩ ⟨p, v, w, rfl, upd_same, E.up (Ex.new (fresh_back t.bh hp)) hx, F.up (Ex.new (fresh_back t.bh hp)) hy⟩⟩
theorem es_tup3 {T : β → Prop} {U : γ → Prop} (x0 : Ex B H) (ha : EvS E ta σ B H S) (hb : EvS F tb σ B H T) (hc : EvS G tc σ B H U) : EvS (e3 E F G) (tTup (tCons ta (tCons tb (tCons tc tNil)))) σ B H (fun p => S p.1 ∧ T p.2.1 ∧ U p.2.2) := fun H1 e Q k =>
  ea_c x0 (mono_aC (mono_aC mono_aN)) ha (ea_c x0 (mono_aC mono_aN) hb (ea_c x0 mono_aN hc (ea_n x0))) H1 e _ fun vs B2 H2 t hA => by
    obtain ⟨v, x, r, rfl, hS, hx, w, y, r', rfl, hT, hy, u, z, r'', rfl, hU, hz, rfl⟩ := hA
    exact ⟨by show 3 ≤ sizeLine; decide, fun p hp => k (.ref p) (x, y, z) (upd B2 p (.tup [v, w, u])) _ (t.trans (Stp.new t.bh hp)) ⟨hS, hT, hU⟩ ⟨p, v, w, u, rfl, upd_same, E.up (Ex.new (fresh_back t.bh hp)) hx, F.up (Ex.new (fresh_back t.bh hp)) hy, G.up (Ex.new (fresh_back t.bh hp)) hz⟩⟩

/-! ### calls -/
/-- a def's promise: arguments that stand for an i with Pre i; it tells what stands for some y with Post i y, and changes nothing -/
def Spec {ι : Type} (A : ι → Hp → List V → Prop) (Pre : ι → Prop) (F : Enc β) (Post : ι → β → Prop) : Sp := fun vs H Q _ => ∃ (i : ι) (B : Hp), Ex B H ∧ A i B vs ∧ Pre i ∧ ∀ w y B2 H2, Stp B H B2 H2 → Post i y → F.R B2 w y → Q w H2
def SpecM {ι : Type} (A : ι → Hp → List V → Prop) (Pre : ι → Prop) (F : Enc β) (Post : ι → List β → Prop) : Sp := fun vs H Q _ => ∃ (i : ι) (B : Hp), Ex B H ∧ A i B vs ∧ Pre i ∧ ∀ p ws ys B2 H2, Stp B H B2 H2 → H p = none → B2 p = none → H2 p = some (.lst ws) → Post i ys → Paired (F.R B2) ws ys → Q (.ref p) H2
abbrev ar1 (E : Enc α) (x : α) : Hp → List V → Prop := aC E (fun y => y = x) aN
abbrev ar2 (E : Enc α) (F : Enc β) (x : α × β) : Hp → List V → Prop := aC E (fun y => y = x.1) (aC F (fun y => y = x.2) aN)
abbrev ar3 (E : Enc α) (F : Enc β) (G : Enc γ) (x : α × β × γ) : Hp → List V → Prop := aC E (fun y => y = x.1) (aC F (fun y => y = x.2.1) (aC G (fun y => y = x.2.2) aN))
abbrev ar4 (E : Enc α) (F : Enc β) (G : Enc γ) (D : Enc δ) (x : α × β × γ × δ) : Hp → List V → Prop := aC E (fun y => y = x.1) (aC F (fun y => y = x.2.1) (aC G (fun y => y = x.2.2.1) (aC D (fun y => y = x.2.2.2) aN)))
abbrev ar5 (E : Enc α) (F : Enc β) (G : Enc γ) (D : Enc δ) (C : Enc ε) (x : α × β × γ × δ × ε) : Hp → List V → Prop := aC E (fun y => y = x.1) (aC F (fun y => y = x.2.1) (aC G (fun y => y = x.2.2.1) (aC D (fun y => y = x.2.2.2.1) (aC C (fun y => y = x.2.2.2.2) aN))))
theorem es_call {ι : Type} {A : ι → Hp → List V → Prop} {Pre : ι → Prop} {Post : ι → β → Prop} {X : XK} (i : ι) (x0 : Ex B H) (h : EvAr ar σ B H (A i)) (p : Pre i) : EvS F (tCall (Spec A Pre F Post) [] X ar) σ B H (Post i) := fun H1 e Q k =>
  h H1 e _ fun vs B2 H2 t hA => ⟨i, B2, t.bh, by rw [List.append_nil]; exact hA, p, fun w y B3 H3 t2 hy hR => k w y B3 H3 (t.trans t2) hy hR⟩
theorem em_call {ι : Type} {A : ι → Hp → List V → Prop} {Pre : ι → Prop} {Post : ι → List β → Prop} {X : XK} (i : ι) (x0 : Ex B H) (h : EvAr ar σ B H (A i)) (p : Pre i) : EvM F (tCall (SpecM A Pre F Post) [] X ar) σ B H (Post i) := fun H1 e Q k =>
  h H1 e _ fun vs B2 H2 t hA => ⟨i, B2, t.bh, by rw [List.append_nil]; exact hA, p, fun p ws ys B3 H3 t2 hp bp hl hy hR => k p ws ys B3 H3 (t.trans t2) (fresh_back t.eh hp) bp hl hy hR⟩
/-- a built-in's call, one argument -/
theorem es_cb1 {r : List V → Hp → VK → Prop} {x : α} {P : γ → Prop} (x0 : Ex B H) (h : EvE E ta σ B H x) (hr : ∀ v B2 H2, Ex B2 H2 → E.R B2 v x → ∀ Q : VK, (∀ z c B3 H3, Stp B2 H2 B3 H3 → P c → G.R B3 z c → Q z H3) → r [v] H2 Q) : EvS G (tCB r (tCons ta tNil)) σ B H P := fun H1 e Q k =>
  h H1 e _ fun v x' B2 H2 t hS hR => by
    cases hS
    exact hr v B2 H2 t.bh hR Q fun z c B3 H3 t2 hc hz => k z c B3 H3 (t.trans t2) hc hz
theorem es_cb2 {r : List V → Hp → VK → Prop} {x : α} {y : β} {P : γ → Prop} (x0 : Ex B H) (h : EvE E ta σ B H x) (h2 : EvE F tb σ B H y)
    (hr : ∀ v w B2 H2, Ex B2 H2 → E.R B2 v x → F.R B2 w y → ∀ Q : VK, (∀ z c B3 H3, Stp B2 H2 B3 H3 → P c → G.R B3 z c → Q z H3) → r [v, w] H2 Q) : EvS G (tCB r (tCons ta (tCons tb tNil))) σ B H P := fun H1 e Q k =>
  h H1 e _ fun v x' B2 H2 t hS hR => by
    cases hS
    exact h2.up ((Stp.go x0 e).trans t) H2 (Ex.refl _) _ fun w y' B3 H3 t2 hy hR2 => by
      cases hy
      exact hr v w B3 H3 t2.bh (E.up t2.eb hR) hR2 Q fun z c B4 H4 t3 hc hz => k z c B4 H4 ((t.trans t2).trans t3) hc hz
theorem em_cb1 {r : List V → Hp → VK → Prop} {x : α} {P : List γ → Prop} (x0 : Ex B H) (h : EvE E ta σ B H x) (hr : ∀ v B2 H2, Ex B2 H2 → E.R B2 v x → ∀ Q : VK, (∀ p ws, (∃ ys, P ys ∧ Paired (G.R B2) ws ys) → H2 p = none → Q (.ref p) (upd H2 p (.lst ws))) → r [v] H2 Q) : EvM G (tCB r (tCons ta tNil)) σ B H P := fun H1 e Q k =>
  h H1 e _ fun v x' B2 H2 t hS hR => by
    cases hS
    exact hr v B2 H2 t.bh hR Q fun p ws ⟨ys, hP, hy⟩ hp => k p ws ys B2 _ (t.trans (Stp.go t.bh (Ex.new hp))) (fresh_back t.eh hp) (fresh_back t.bh hp) upd_same hP hy
def rListS' (K : PySem.W.Frag) : List V → Hp → VK → Prop := fun xs H Q => ∃ p ys, xs = [V.ref p] ∧ (SqL K H p ys ∨ SqT K H p ys) ∧ ∀ l, H l = none → Q (.ref l) (upd H l (.lst ys))
def rTupS' (K : PySem.W.Frag) : List V → Hp → VK → Prop := fun xs H Q => ∃ p ys, xs = [V.ref p] ∧ ((SqL K H p ys ∧ ∀ l, H l = none → Q (.ref l) (upd H l (.tup ys))) ∨ (SqT K H p ys ∧ Q (.ref p) H))
def rLenD' : List V → Hp → VK → Prop := fun xs H Q => ∃ a kvs, xs = [V.ref a] ∧ H a = some (.dK kvs) ∧ Q (.int kvs.length) H
section
variable {X : Cx}
theorem cl_len : CallR X (.builtin "len") (rLenS X.K) := call_len_seq
theorem cl_list : CallR X (.type "list") (rListS' X.K) := call_list_of
theorem cl_tuple : CallR X (.type "tuple") (rTupS' X.K) := call_tuple_of
theorem cl_lenD : CallR X (.builtin "len") rLenD' := call_lenD
end
theorem es_lenL {xs : List α} (x0 : Ex B H) (h : EvE (eL E) ta σ B H xs) : EvE eI (tCB (rLenS K) (tCons ta tNil)) σ B H (xs.length : Int) :=
  es_cb1 x0 h fun v B2 H2 x2 ⟨a, vs, h1, h2, h3⟩ Q k => ⟨a, vs, by rw [h1], .inl (SqL.of (x2 _ _ h2)), by rw [pl h3]; exact k _ _ B2 H2 (Stp.refl x2) rfl rfl⟩
theorem es_lenT {xs : List α} (x0 : Ex B H) (h : EvE (eT E) ta σ B H xs) : EvE eI (tCB (rLenS K) (tCons ta tNil)) σ B H (xs.length : Int) :=
  es_cb1 x0 h fun v B2 H2 x2 ⟨a, vs, h1, h2, h3⟩ Q k => ⟨a, vs, by rw [h1], .inr (SqT.of (x2 _ _ h2)), by rw [pl h3]; exact k _ _ B2 H2 (Stp.refl x2) rfl rfl⟩
theorem es_lenD {ks : List Int} (x0 : Ex B H) (h : EvE eD ta σ B H ks) : EvE eI (tCB rLenD' (tCons ta tNil)) σ B H (ks.length : Int) :=
  es_cb1 x0 h fun v B2 H2 x2 ⟨a, kvs, h1, h2, h3⟩ Q k => ⟨a, kvs, by rw [h1], x2 _ _ h2, by
    have e : kvs.length = ks.length := by
      have q := congrArg List.length h3
      rw [List.length_map, List.length_map] at q
      exact q
    rw [e]
    exact k _ _ B2 H2 (Stp.refl x2) rfl rfl⟩
theorem em_listL {xs : List α} (x0 : Ex B H) (h : EvE (eL E) ta σ B H xs) : EvM E (tCB (rListS' K) (tCons ta tNil)) σ B H (fun ys => ys = xs) :=
  em_cb1 x0 h fun v B2 H2 x2 ⟨a, vs, h1, h2, h3⟩ Q k => ⟨a, vs, by rw [h1], .inl (SqL.of (x2 _ _ h2)), fun l hl => k l vs ⟨xs, rfl, h3⟩ hl⟩
theorem em_listT {xs : List α} (x0 : Ex B H) (h : EvE (eT E) ta σ B H xs) : EvM E (tCB (rListS' K) (tCons ta tNil)) σ B H (fun ys => ys = xs) :=
  em_cb1 x0 h fun v B2 H2 x2 ⟨a, vs, h1, h2, h3⟩ Q k => ⟨a, vs, by rw [h1], .inr (SqT.of (x2 _ _ h2)), fun l hl => k l vs ⟨xs, rfl, h3⟩ hl⟩
theorem es_tupL {xs : List α} (x0 : Ex B H) (h : EvE (eL E) ta σ B H xs) : EvE (eT E) (tCB (rTupS' K) (tCons ta tNil)) σ B H xs :=
  es_cb1 x0 h fun v B2 H2 x2 ⟨a, vs, h1, h2, h3⟩ Q k => ⟨a, vs, by rw [h1], .inl ⟨SqL.of (x2 _ _ h2), fun l hl => k (.ref l) xs (upd B2 l (.tup vs)) _ (Stp.new x2 hl) rfl ⟨l, vs, rfl, upd_same, E.ups (Ex.new (fresh_back x2 hl)) h3⟩⟩⟩
theorem es_sum {ns : List Int} (x0 : Ex B H) (h : EvE (eL eI) ta σ B H ns) : EvE eI (tCB (rSum K) (tCons ta tNil)) σ B H ns.sum :=
  es_cb1 x0 h fun v B2 H2 x2 hR Q k => by
    obtain ⟨a, h1, h2⟩ := eLI hR
    exact ⟨a, ns, by rw [h1], SqL.of (x2 _ _ h2), k _ _ B2 H2 (Stp.refl x2) rfl rfl⟩
theorem es_min {ns : List Int} (x0 : Ex B H) (h : EvE (eL eI) ta σ B H ns) (hz : 0 < ns.length) : EvS eI (tCB (rMin K) (tCons ta tNil)) σ B H (fun m => m ∈ ns ∧ ∀ y ∈ ns, m ≤ y) :=
  es_cb1 x0 h fun v B2 H2 x2 hR Q k => by
    obtain ⟨a, h1, h2⟩ := eLI hR
    exact ⟨a, ns, by rw [h1], SqL.of (x2 _ _ h2), hz, fun m hm hle => k _ _ B2 H2 (Stp.refl x2) ⟨hm, hle⟩ rfl⟩
end
end RR
namespace RR
open PySem L2 Evl
section
variable {α β γ δ ε : Type} {E : Enc α} {F : Enc β} {G : Enc γ}
variable {te ta tb tc tl : TE} {tt : TT} {σ : L2.St} {B H B0 H0 B1 H1 : Hp} {S : α → Prop} {K : PySem.W.Frag}

/-! ### comprehensions -/
/-- what holds ahead of turn i: D is where the new list stands -/
def Lw (F : Enc β) (Tr : α → β → Prop) (p : α → Bool) (B1 H1 : Hp) (D : Addr) (xs : List α) (i : Nat) (H' : Hp) : Prop :=
  ∃ B' acc ys, Stp B1 H1 B' H' ∧ Cell H1 B' H' D (.lst acc) ∧ Paired (F.R B') acc ys ∧ Paired Tr ((xs.take i).filter p) ys ∧ acc.length ≤ i
theorem lw_start {Tr : α → β → Prop} {p : α → Bool} {D : Addr} {xs : List α} (x1 : Ex B1 H1) (hD : H1 D = none) : Lw F Tr p B1 H1 D xs 0 (upd H1 D (.lst [])) :=
  ⟨B1, [], [], Stp.go x1 (Ex.new hD), ⟨hD, fresh_back x1 hD, upd_same⟩, .nil, .nil, Nat.le_refl _⟩
theorem lw_turn {Tr : α → β → Prop} {p : α → Bool} {D : Addr} {xs : List α} {i : Nat} {H' : Hp} {x : α} {σ2 : L2.St} (hw : Lw F Tr p B1 H1 D xs i H') (hx : xs[i]? = some x) (hz : i < 50000)
    (ht : ∀ B' , Stp B1 H1 B' H' → EvT tt σ2 H' (p x)) (he : p x = true → ∀ B', Stp B1 H1 B' H' → EvS F te σ2 B' H' (Tr x)) :
    tt σ2 H' fun b H3 => if b = true then te σ2 H3 fun y H4 => ∃ acc, H4 D = some (.lst acc) ∧ acc.length < sizeLine ∧ Lw F Tr p B1 H1 D xs (i + 1) (upd H4 D (.lst (acc ++ [y]))) else Lw F Tr p B1 H1 D xs (i + 1) H3 := by
  obtain ⟨B', acc, ys, s, c, h1, h2, h3⟩ := hw
  refine ht B' s H' (Ex.refl _) _ fun H3 e3 => ?_
  have tk := take_succ_filter p xs i x hx
  cases hp : p x with
  | true =>
    rw [hp] at tk
    refine iteT (he hp B' s H3 e3 _ fun y yy B4 H4 t4 hT hR => ⟨acc, t4.eh _ _ (e3 _ _ c.h), sz_lt (by omega), B4, acc ++ [y], ys ++ [yy], ?_, ?_, ?_, ?_, ?_⟩)
    · exact ((c.go e3).up t4).mut ((s.goH e3).trans t4)
    · exact ((c.go e3).up t4).same
    · exact Paired.snoc (F.ups t4.eb h1) hR
    · rw [tk, if_pos rfl]
      exact Paired.snoc h2 hT
    · rw [List.length_append, List.length_singleton]
      omega
  | false =>
    rw [hp] at tk
    refine iteF ⟨B', acc, ys, s.goH e3, c.go e3, h1, ?_, by omega⟩
    rw [tk, if_neg Bool.false_ne_true, List.append_nil]
    exact h2
theorem em_lcL {xs : List α} {p : α → Bool} {Tr : α → β → Prop} {j : Nat} {vs : List Nat} (x0 : Ex B H) (h : EvE (eL E) tl σ B H xs) (hz : xs.length ≤ 40000)
    (hw : ∀ v, wipe ((wipe σ vs).set j (some v)) vs = wipe σ vs)
    (ht : ∀ x v B1 H1, Stp B H B1 H1 → x ∈ xs → E.R B1 v x → EvT tt ((wipe σ vs).set j (some v)) H1 (p x))
    (he : ∀ x v B1 H1, Stp B H B1 H1 → x ∈ xs → E.R B1 v x → p x = true → EvS F te ((wipe σ vs).set j (some v)) B1 H1 (Tr x)) :
    EvM F (tLc (iList K tl) (gName j) tt te vs) σ B H (fun ys => Paired Tr (xs.filter p) ys) := fun H0 e Q k =>
  h H0 e _ fun v x' B1 H1 t hx hR => by
    cases hx
    obtain ⟨a, ws, rfl, h2, h3⟩ := hR
    have s0 := (Stp.go x0 e).trans t
    refine ⟨a, rfl, ⟨ws, SqL.of (t.bh _ _ h2)⟩, fun D hD => lc_list (xs := ws) (Lw F Tr p B1 H1 D xs) (lw_start t.bh hD) (fun i H' hi hP => ?_) (fun i w H' hi hP => ?_) (fun H' hP => ?_)⟩
    · obtain ⟨B', acc, ys, s, _⟩ := hP
      exact SqL.of (s.bh _ _ (s.eb _ _ h2))
    · obtain ⟨x, hx, hr⟩ := pgetV h3 hi
      have hm : x ∈ xs := List.mem_of_getElem? hx
      exact ⟨hw w, lw_turn hP hx (by have := (List.getElem?_eq_some_iff.mp hx).1; omega) (fun B' s => ht x w B' H' (s0.trans s) hm (E.up s.eb hr)) (fun hp B' s => he x w B' H' (s0.trans s) hm (E.up s.eb hr) hp)⟩
    · obtain ⟨B', acc, ys, s, c, q1, q2, q3⟩ := hP
      rw [pl h3, List.take_length] at q2
      exact k D acc ys B' H' (t.trans s) (fresh_back t.eh hD) c.b c.h q2 q1
theorem em_lcT {xs : List α} {p : α → Bool} {Tr : α → β → Prop} {j : Nat} {vs : List Nat} (x0 : Ex B H) (h : EvE (eT E) tl σ B H xs) (hz : xs.length ≤ 40000)
    (hw : ∀ v, wipe ((wipe σ vs).set j (some v)) vs = wipe σ vs)
    (ht : ∀ x v B1 H1, Stp B H B1 H1 → x ∈ xs → E.R B1 v x → EvT tt ((wipe σ vs).set j (some v)) H1 (p x))
    (he : ∀ x v B1 H1, Stp B H B1 H1 → x ∈ xs → E.R B1 v x → p x = true → EvS F te ((wipe σ vs).set j (some v)) B1 H1 (Tr x)) :
    EvM F (tLc (iTup K tl) (gName j) tt te vs) σ B H (fun ys => Paired Tr (xs.filter p) ys) := fun H0 e Q k =>
  h H0 e _ fun v x' B1 H1 t hx hR => by
    cases hx
    obtain ⟨a, ws, rfl, h2, h3⟩ := hR
    have s0 := (Stp.go x0 e).trans t
    refine ⟨a, rfl, ⟨ws, SqT.of (t.bh _ _ h2)⟩, fun D hD => lc_tup (xs := ws) (Lw F Tr p B1 H1 D xs) (lw_start t.bh hD) (fun i H' hi hP => ?_) (fun i w H' hi hP => ?_) (fun H' hP => ?_)⟩
    · obtain ⟨B', acc, ys, s, _⟩ := hP
      exact SqT.of (s.bh _ _ (s.eb _ _ h2))
    · obtain ⟨x, hx, hr⟩ := pgetV h3 hi
      have hm : x ∈ xs := List.mem_of_getElem? hx
      exact ⟨hw w, lw_turn hP hx (by have := (List.getElem?_eq_some_iff.mp hx).1; omega) (fun B' s => ht x w B' H' (s0.trans s) hm (E.up s.eb hr)) (fun hp B' s => he x w B' H' (s0.trans s) hm (E.up s.eb hr) hp)⟩
    · obtain ⟨B', acc, ys, s, c, q1, q2, q3⟩ := hP
      rw [pl h3, List.take_length] at q2
      exact k D acc ys B' H' (t.trans s) (fresh_back t.eh hD) c.b c.h q2 q1
/-- over a list of ints that H knows (it may be one that changes) -/
theorem em_lcH {ns : List Int} {p : Int → Bool} {Tr : Int → β → Prop} {j : Nat} {vs : List Nat} (x0 : Ex B H) (h : EvE (eL eI) tl σ H H ns) (hz : ns.length ≤ 40000)
    (hw : ∀ v, wipe ((wipe σ vs).set j (some v)) vs = wipe σ vs)
    (ht : ∀ n B1 H1, Stp B H B1 H1 → n ∈ ns → EvT tt ((wipe σ vs).set j (some (.int n))) H1 (p n))
    (he : ∀ n B1 H1, Stp B H B1 H1 → n ∈ ns → p n = true → EvS F te ((wipe σ vs).set j (some (.int n))) B1 H1 (Tr n)) :
    EvM F (tLc (iList K tl) (gName j) tt te vs) σ B H (fun ys => Paired Tr (ns.filter p) ys) := fun H0 e Q k =>
  h H0 e _ fun v x' C1 H1 t hx hR => by
    cases hx
    obtain ⟨a, rfl, h2⟩ := eLI hR
    have e1 : Ex H H1 := e.trans t.eh
    have s0 : Stp B H B H1 := Stp.go x0 e1
    refine ⟨a, rfl, ⟨_, SqL.of (t.bh _ _ h2)⟩, fun D hD => lc_list (xs := ns.map V.int) (Lw F Tr p B H1 D ns) (lw_start (x0.trans e1) hD) (fun i H' hi hP => ?_) (fun i w H' hi hP => ?_) (fun H' hP => ?_)⟩
    · obtain ⟨B', acc, ys, s, _⟩ := hP
      exact SqL.of (s.eh _ _ (t.bh _ _ h2))
    · obtain ⟨n, hx, hr⟩ := pgetV (pI' (H := H) ns) hi
      cases hr
      have hm : n ∈ ns := List.mem_of_getElem? hx
      exact ⟨hw _, lw_turn hP hx (by have := (List.getElem?_eq_some_iff.mp hx).1; omega) (fun B' s => ht n B' H' (s0.trans s) hm) (fun hp B' s => he n B' H' (s0.trans s) hm hp)⟩
    · obtain ⟨B', acc, ys, s, c, q1, q2, q3⟩ := hP
      rw [List.length_map, List.take_length] at q2
      exact k D acc ys B' H' ((Stp.go (x0.trans e) t.eh).trans s) (fresh_back t.eh hD) c.b c.h q2 q1
/-- nought, one, .. below n -/
def rg (n : Int) : List Int := (List.range n.toNat).map fun (k : Nat) => (k : Int)
theorem rg_len (n : Int) : (rg n).length = n.toNat := by
  unfold rg
  rw [List.length_map, List.length_range]
theorem rg_get {n : Int} {i : Nat} (h : i < n.toNat) : (rg n)[i]? = some (i : Int) := by
  unfold rg
  rw [List.getElem?_map, List.getElem?_range h]
  rfl
theorem mem_rg {n k : Int} : k ∈ rg n ↔ 0 ≤ k ∧ k < n := by
  unfold rg
  rw [List.mem_map]
  constructor
  · rintro ⟨a, ha, rfl⟩
    rw [List.mem_range] at ha
    omega
  · rintro ⟨h0, h1⟩
    exact ⟨k.toNat, by rw [List.mem_range]; omega, by omega⟩
theorem em_lcR {n : Int} {p : Int → Bool} {Tr : Int → β → Prop} {j : Nat} {vs : List Nat} (x0 : Ex B H) (h : EvE eI tl σ B H n) (hz : n ≤ 40000) (hz' : -40000 ≤ n)
    (hw : ∀ v, wipe ((wipe σ vs).set j (some v)) vs = wipe σ vs)
    (ht : ∀ (k : Int) B1 H1, Stp B H B1 H1 → 0 ≤ k → k < n → EvT tt ((wipe σ vs).set j (some (.int k))) H1 (p k))
    (he : ∀ (k : Int) B1 H1, Stp B H B1 H1 → 0 ≤ k → k < n → p k = true → EvS F te ((wipe σ vs).set j (some (.int k))) B1 H1 (Tr k)) :
    EvM F (tLc (iRng1 (tCons tl tNil)) (gName j) tt te vs) σ B H (fun ys => Paired Tr ((rg n).filter p) ys) := fun H0 e Q k =>
  h H0 e _ fun v x' B1 H1 t hx hR => by
    cases hx
    cases hR
    have s0 := (Stp.go x0 e).trans t
    refine ⟨n, rfl, by omega, by omega, fun D hD => lc_range (lo := 0) (n := n.toNat) (Lw F Tr p B1 H1 D (rg n)) (lw_start t.bh hD) (fun i H' hi hP => ?_) (fun H' hP => ?_)⟩
    · have e0 : (0 : Int) + (i : Int) = (i : Int) := Int.zero_add _
      rw [e0]
      exact ⟨hw _, lw_turn hP (rg_get hi) (by omega) (fun B' s => ht i B' H' (s0.trans s) (by omega) (by omega)) (fun hp B' s => he i B' H' (s0.trans s) (by omega) (by omega) hp)⟩
    · obtain ⟨B', acc, ys, s, c, q1, q2, q3⟩ := hP
      rw [← rg_len n, List.take_length] at q2
      exact k D acc ys B' H' (t.trans s) (fresh_back t.eh hD) c.b c.h q2 q1
theorem et_yes {σ : L2.St} {H : Hp} : EvT tYes σ H true := fun H1 e Q q => q H1 (Ex.refl _)
theorem pair_fun {f : α → β} : ∀ {xs : List α} {ys : List β}, Paired (fun x y => y = f x) xs ys → ys = xs.map f
  | _, _, .nil => rfl
  | _, _, .cons r t => by
    rw [pair_fun t, r]
    rfl
theorem filter_yes (xs : List α) : xs.filter (fun _ => true) = xs := by
  induction xs with
  | nil => rfl
  | cons x r ih => rw [List.filter_cons, if_pos rfl, ih]

/-! ### slices, joins -/
def cutP (xs : List α) (lo hi : Option Int) : List α := (xs.drop (HT.sIx xs.length 0 lo)).take (HT.sIx xs.length xs.length hi - HT.sIx xs.length 0 lo)
theorem pcut {R : V → α → Prop} {vs : List V} {xs : List α} (lo hi : Option Int) (p : Paired R vs xs) : Paired R (cutV vs lo hi) (cutP xs lo hi) := by
  unfold cutV cutP
  rw [pl p]
  exact ptake _ (pdrop _ p)
def EvO' (to : TO) (σ : L2.St) (H : Hp) (o : Option Int) : Prop := EvO to σ H o
theorem em_slL {to1 to2 : TO} {xs : List α} {lo hi : Option Int} (x0 : Ex B H) (h : EvE (eL E) te σ B H xs) (h1 : EvO to1 σ H lo) (h2 : EvO to2 σ H hi) : EvM E (tSl (rSlL K) te to1 to2) σ B H (fun ys => ys = cutP xs lo hi) := fun H1 e Q k =>
  h H1 e _ fun v x' B2 H2 t hx hR => by
    cases hx
    obtain ⟨a, vs, rfl, q2, q3⟩ := hR
    refine h1 H2 (e.trans t.eh) _ fun H3 e3 => h2 H3 ((e.trans t.eh).trans e3) _ fun H4 e4 => ⟨a, vs, rfl, SqL.of (e4 _ _ (e3 _ _ (t.bh _ _ q2))), fun p hp => ?_⟩
    have s := t.goH (e3.trans e4)
    exact k p _ _ B2 _ (s.goH (Ex.new hp)) (fresh_back s.eh hp) (fresh_back s.bh hp) upd_same rfl (pcut lo hi q3)
theorem eo_some' {i : Int} (h : EvE eI te σ B H i) : EvO (tPart te) σ H (some i) := eo_some (ev_sI h)
theorem em_cat {xs ys : List α} (x0 : Ex B H) (ha : EvE (eL E) ta σ B H xs) (hb : EvE (eL E) tb σ B H ys) (hz : xs.length + ys.length ≤ 100000) : EvM E (tOp rCat ta tb) σ B H (fun zs => zs = xs ++ ys) := fun H1 e Q k =>
  ha H1 e _ fun v x' B2 H2 t hx hR => by
    cases hx
    exact hb.up ((Stp.go x0 e).trans t) H2 (Ex.refl _) _ fun w y' B3 H3 t2 hy hR2 => by
      cases hy
      obtain ⟨a, vs, rfl, q2, q3⟩ := hR
      obtain ⟨b, ws, rfl, q5, q6⟩ := hR2
      refine ⟨a, b, vs, ws, rfl, rfl, t2.bh _ _ (t2.eb _ _ q2), t2.bh _ _ q5, sz_of (by rw [pl q3, pl q6]; exact hz), fun p hp => ?_⟩
      have s := t.trans t2
      exact k p _ _ B3 _ (s.goH (Ex.new hp)) (fresh_back s.eh hp) (fresh_back s.bh hp) upd_same rfl (papp (E.ups t2.eb q3) q6)

/-! ### statements -/
variable {D : Ends} {tu tw tz : TS} {g : TG} {i : Nat}
theorem q_setI {n : Int} (h : EvE eI te σ B H n) (k : ∀ H1, Ex H H1 → tz D (σ.set i (some (.int n))) H1) : tSeq (tAsg te (gName i)) tz D σ H := q_asg (ev_sI h) k
theorem q_setB {b : Bool} (h : EvE eB te σ B H b) (k : ∀ H1, Ex H H1 → tz D (σ.set i (some (.bl b))) H1) : tSeq (tAsg te (gName i)) tz D σ H := q_asg (ev_sB h) k
theorem q_setS (h : EvS E te σ B H S) (k : ∀ v x B1 H1, Stp B H B1 H1 → S x → E.R B1 v x → tz D (σ.set i (some v)) H1) : tSeq (tAsg te (gName i)) tz D σ H :=
  h H (Ex.refl _) _ fun v x B1 H1 s hS hR => k v x B1 H1 s hS hR
theorem q_setM {S : List α → Prop} (h : EvM E te σ B H S) (k : ∀ p vs xs B1 H1, Stp B H B1 H1 → H p = none → B1 p = none → H1 p = some (.lst vs) → S xs → Paired (E.R B1) vs xs → tz D (σ.set i (some (.ref p))) H1) : tSeq (tAsg te (gName i)) tz D σ H :=
  h H (Ex.refl _) _ fun p vs xs B1 H1 s hp bp hl hS hR => k p vs xs B1 H1 s hp bp hl hS hR
theorem q_retS (h : EvS E te σ B H S) (k : ∀ v x B1 H1, Stp B H B1 H1 → S x → E.R B1 v x → D.rt v H1) : tRet te D σ H :=
  h H (Ex.refl _) _ fun v x B1 H1 s hS hR => k v x B1 H1 s hS hR
theorem q_retM {S : List α → Prop} (h : EvM E te σ B H S) (k : ∀ p vs xs B1 H1, Stp B H B1 H1 → H p = none → B1 p = none → H1 p = some (.lst vs) → S xs → Paired (E.R B1) vs xs → D.rt (.ref p) H1) : tRet te D σ H :=
  h H (Ex.refl _) _ fun p vs xs B1 H1 s hp bp hl hS hR => k p vs xs B1 H1 s hp bp hl hS hR
theorem q_dropS (h : EvS E te σ B H S) (k : ∀ v x B1 H1, Stp B H B1 H1 → S x → E.R B1 v x → tz D σ H1) : tSeq (tDrop te) tz D σ H :=
  h H (Ex.refl _) _ fun v x B1 H1 s hS hR => k v x B1 H1 s hS hR
/-- xs.append(e) of one's own list -/
theorem c_app {l : Addr} {xs : List V} (c : Cell H0 B H l (.lst xs)) (s0 : Stp B0 H0 B H) (ho : σ[i]? = some (some (.ref l))) (hz : xs.length < 100000) (h : EvS E te σ B H S)
    (k : ∀ v x B1 H1, Stp B0 H0 B1 H1 → Ex B B1 → Cell H0 B1 H1 l (.lst (xs ++ [v])) → (∀ p o, p ≠ l → Cell H0 B H p o → Cell H0 B1 H1 p o) → S x → E.R B1 v x → D.nx σ H1) :
    tDrop (tBM K "list" rAppend (tVar i) (tCons te tNil)) D σ H :=
  ⟨.ref l, ho, Or.inl ⟨rfl, xs, SqL.of c.h⟩, h H (Ex.refl _) _ fun v x B1 H1 s hS hR => ⟨l, xs, v, rfl, rfl, s.eh _ _ c.h, sz_lt hz,
    k v x B1 _ ((c.up s).mut (s0.trans s)) s.eb (c.up s).same (fun p o ne d => (d.up s).other ne) hS hR⟩⟩
theorem q_app {l : Addr} {xs : List V} (c : Cell H0 B H l (.lst xs)) (s0 : Stp B0 H0 B H) (ho : σ[i]? = some (some (.ref l))) (hz : xs.length < 100000) (h : EvS E te σ B H S)
    (k : ∀ v x B1 H1, Stp B0 H0 B1 H1 → Ex B B1 → Cell H0 B1 H1 l (.lst (xs ++ [v])) → (∀ p o, p ≠ l → Cell H0 B H p o → Cell H0 B1 H1 p o) → S x → E.R B1 v x → tz D σ H1) :
    tSeq (tDrop (tBM K "list" rAppend (tVar i) (tCons te tNil))) tz D σ H := c_app (D := { D with nx := tz D }) c s0 ho hz h k
/-- a loop over a list: W tells what holds ahead of each turn -/
theorem c_forL {T : List α → Prop} (h : EvS (eL E) tl σ B H T) (W : List α → Hp → Nat → L2.St → Hp → Prop)
    (h0 : ∀ xs B1 H1, Stp B H B1 H1 → T xs → W xs B1 0 σ H1) (hb : ∀ xs B1 i σ' H', W xs B1 i σ' H' → Ex B1 H')
    (hs : ∀ xs B1 i x v σ' H', T xs → Ex B B1 → xs[i]? = some x → E.R B1 v x → W xs B1 i σ' H' → g v σ' H' fun σ2 H2 => tu { D with nx := W xs B1 (i + 1), ct := W xs B1 (i + 1), bk := D.nx } σ2 H2)
    (hd : ∀ xs B1 σ' H', T xs → Ex B B1 → W xs B1 xs.length σ' H' → D.nx σ' H') : tFor (iList K tl) g tu D σ H :=
  h H (Ex.refl _) _ fun v xs B1 H1 s hT ⟨a, ws, e1, h2, h3⟩ => ⟨a, e1, ⟨ws, SqL.of (s.bh _ _ h2)⟩, for_list (xs := ws) (W xs B1) (h0 xs B1 H1 s hT) (fun i σ' H' _ p => SqL.of (hb _ _ _ _ _ p _ _ h2)) (fun i w σ' H' hi p => by
    obtain ⟨x, hx, hr⟩ := pgetV h3 hi
    exact hs xs B1 i x w σ' H' hT s.eb hx hr p) (fun σ' H' p => hd xs B1 σ' H' hT s.eb (by rw [← pl h3]; exact p))⟩
theorem q_forL {T : List α → Prop} (h : EvS (eL E) tl σ B H T) (W : List α → Hp → Nat → L2.St → Hp → Prop)
    (h0 : ∀ xs B1 H1, Stp B H B1 H1 → T xs → W xs B1 0 σ H1) (hb : ∀ xs B1 i σ' H', W xs B1 i σ' H' → Ex B1 H')
    (hs : ∀ xs B1 i x v σ' H', T xs → Ex B B1 → xs[i]? = some x → E.R B1 v x → W xs B1 i σ' H' → g v σ' H' fun σ2 H2 => tu { D with nx := W xs B1 (i + 1), ct := W xs B1 (i + 1), bk := tz D } σ2 H2)
    (hd : ∀ xs B1 σ' H', T xs → Ex B B1 → W xs B1 xs.length σ' H' → tz D σ' H') : tSeq (tFor (iList K tl) g tu) tz D σ H :=
  c_forL (D := { D with nx := tz D }) h W h0 hb hs hd
/-- over a list that B knows -/
theorem c_forE {xs : List α} (x0 : Ex B H) (h : ∃ v, Ev tl σ H v ∧ (eL E).R B v xs) (W : Nat → L2.St → Hp → Prop)
    (h0 : ∀ H1, Ex H H1 → W 0 σ H1) (hb : ∀ i σ' H', W i σ' H' → Ex B H')
    (hs : ∀ i x v σ' H', xs[i]? = some x → E.R B v x → W i σ' H' → g v σ' H' fun σ2 H2 => tu { D with nx := W (i + 1), ct := W (i + 1), bk := D.nx } σ2 H2)
    (hd : ∀ σ' H', W xs.length σ' H' → D.nx σ' H') : tFor (iList K tl) g tu D σ H := by
  obtain ⟨v, hv, a, ws, e1, h2, h3⟩ := h
  exact hv H (Ex.refl _) _ fun H1 e => ⟨a, e1, ⟨ws, SqL.of (e _ _ (x0 _ _ h2))⟩, for_list (xs := ws) W (h0 H1 e) (fun i σ' H' _ p => SqL.of (hb _ _ _ p _ _ h2)) (fun i w σ' H' hi p => by
    obtain ⟨x, hx, hr⟩ := pgetV h3 hi
    exact hs i x w σ' H' hx hr p) (fun σ' H' p => hd σ' H' (by rw [← pl h3]; exact p))⟩
theorem q_forE {xs : List α} (x0 : Ex B H) (h : ∃ v, Ev tl σ H v ∧ (eL E).R B v xs) (W : Nat → L2.St → Hp → Prop)
    (h0 : ∀ H1, Ex H H1 → W 0 σ H1) (hb : ∀ i σ' H', W i σ' H' → Ex B H')
    (hs : ∀ i x v σ' H', xs[i]? = some x → E.R B v x → W i σ' H' → g v σ' H' fun σ2 H2 => tu { D with nx := W (i + 1), ct := W (i + 1), bk := tz D } σ2 H2)
    (hd : ∀ σ' H', W xs.length σ' H' → tz D σ' H') : tSeq (tFor (iList K tl) g tu) tz D σ H :=
  c_forE (D := { D with nx := tz D }) x0 h W h0 hb hs hd
theorem c_forTE {xs : List α} (x0 : Ex B H) (h : ∃ v, Ev tl σ H v ∧ (eT E).R B v xs) (W : Nat → L2.St → Hp → Prop)
    (h0 : ∀ H1, Ex H H1 → W 0 σ H1) (hb : ∀ i σ' H', W i σ' H' → Ex B H')
    (hs : ∀ i x v σ' H', xs[i]? = some x → E.R B v x → W i σ' H' → g v σ' H' fun σ2 H2 => tu { D with nx := W (i + 1), ct := W (i + 1), bk := D.nx } σ2 H2)
    (hd : ∀ σ' H', W xs.length σ' H' → D.nx σ' H') : tFor (iTup K tl) g tu D σ H := by
  obtain ⟨v, hv, a, ws, e1, h2, h3⟩ := h
  exact hv H (Ex.refl _) _ fun H1 e => ⟨a, e1, ⟨ws, SqT.of (e _ _ (x0 _ _ h2))⟩, for_tup (xs := ws) W (h0 H1 e) (fun i σ' H' _ p => SqT.of (hb _ _ _ p _ _ h2)) (fun i w σ' H' hi p => by
    obtain ⟨x, hx, hr⟩ := pgetV h3 hi
    exact hs i x w σ' H' hx hr p) (fun σ' H' p => hd σ' H' (by rw [← pl h3]; exact p))⟩
/-- range(n) -/
theorem c_forR {n : Int} {j : Nat} (h : EvE eI te σ B H n) (hn : -100000 ≤ n ∧ n ≤ 100000) (W : Nat → L2.St → Hp → Prop)
    (h0 : ∀ H1, Ex H H1 → W 0 σ H1) (hs : ∀ (i : Nat) σ' H', (i : Int) < n → W i σ' H' → tu { D with nx := W (i + 1), ct := W (i + 1), bk := D.nx } (σ'.set j (some (.int (i : Int)))) H')
    (hd : ∀ σ' H', W n.toNat σ' H' → D.nx σ' H') : tFor (iRng1 (tCons te tNil)) (gName j) tu D σ H :=
  ev_sI h H (Ex.refl H) _ fun H1 e => ⟨n, rfl, by omega, by omega, for_range (lo := 0) (n := n.toNat) W (h0 H1 e) (fun i σ' H' hi p => by
    have e0 : (0 : Int) + (i : Int) = (i : Int) := Int.zero_add _
    show tu { D with nx := W (i + 1), ct := W (i + 1), bk := D.nx } (σ'.set j (some (.int ((0 : Int) + (i : Int))))) H'
    rw [e0]
    exact hs i σ' H' (by omega) p) hd⟩
theorem q_forR {n : Int} {j : Nat} (h : EvE eI te σ B H n) (hn : -100000 ≤ n ∧ n ≤ 100000) (W : Nat → L2.St → Hp → Prop)
    (h0 : ∀ H1, Ex H H1 → W 0 σ H1) (hs : ∀ (i : Nat) σ' H', (i : Int) < n → W i σ' H' → tu { D with nx := W (i + 1), ct := W (i + 1), bk := tz D } (σ'.set j (some (.int (i : Int)))) H')
    (hd : ∀ σ' H', W n.toNat σ' H' → tz D σ' H') : tSeq (tFor (iRng1 (tCons te tNil)) (gName j) tu) tz D σ H :=
  c_forR (D := { D with nx := tz D }) h hn W h0 hs hd
theorem c_forR2 {lo n : Int} {j : Nat} (h1 : EvE eI ta σ B H lo) (h : EvE eI te σ B H n) (hn : 0 ≤ lo ∧ lo ≤ 100000 ∧ -100000 ≤ n ∧ n ≤ 100000) (W : Nat → L2.St → Hp → Prop)
    (h0 : ∀ H1, Ex H H1 → W 0 σ H1) (hs : ∀ (i : Nat) σ' H', lo + (i : Int) < n → W i σ' H' → tu { D with nx := W (i + 1), ct := W (i + 1), bk := D.nx } (σ'.set j (some (.int (lo + (i : Int))))) H')
    (hd : ∀ σ' H', W (n - lo).toNat σ' H' → D.nx σ' H') : tFor (iRng2 (tCons ta (tCons te tNil))) (gName j) tu D σ H :=
  s_forR2 (ea_cons (ev_sI h1) (ea_cons (ev_sI h) ea_nil)) hn W h0 hs hd
theorem q_forR2' {lo n : Int} {j : Nat} (h1 : EvE eI ta σ B H lo) (h : EvE eI te σ B H n) (hn : 0 ≤ lo ∧ lo ≤ 100000 ∧ -100000 ≤ n ∧ n ≤ 100000) (W : Nat → L2.St → Hp → Prop)
    (h0 : ∀ H1, Ex H H1 → W 0 σ H1) (hs : ∀ (i : Nat) σ' H', lo + (i : Int) < n → W i σ' H' → tu { D with nx := W (i + 1), ct := W (i + 1), bk := tz D } (σ'.set j (some (.int (lo + (i : Int))))) H')
    (hd : ∀ σ' H', W (n - lo).toNat σ' H' → tz D σ' H') : tSeq (tFor (iRng2 (tCons ta (tCons te tNil))) (gName j) tu) tz D σ H :=
  c_forR2 (D := { D with nx := tz D }) h1 h hn W h0 hs hd
/-- enumerate: each turn a new pair -/
theorem for_enum {a : Addr} {xs : List V} {g : TG} {tb : TS} {D : Ends} {σ : L2.St} {H : Hp} (Pv : Nat → L2.St → Hp → Prop) (h0 : Pv 0 σ H) (hl : ∀ i σ H, i ≤ xs.length → Pv i σ H → SqL K H a xs)
    (hs : ∀ i x σ H p, xs[i]? = some x → Pv i σ H → H p = none → g (.ref p) σ (upd H p (.tup [.int (i : Nat), x])) fun σ2 H2 => tb { D with nx := Pv (i + 1), ct := Pv (i + 1), bk := D.nx } σ2 H2) (hd : ∀ σ H, Pv xs.length σ H → D.nx σ H) :
    ∃ W : Nat → Nat → L2.St → Hp → Prop, (∃ m, W 0 m σ H) ∧ ∀ i m σ H, W i m σ H →
      ((Ite K a).stop i H ∧ D.nx σ H) ∨ ((Ite K a).go i H ∧ ∃ N : L2.St → Hp → Prop, (∀ σ' H', N σ' H' → ∃ m', m' < m ∧ W (i + 1) m' σ' H') ∧ ∀ x H', (Ite K a).yld i H x H' → g x σ H' fun σ2 H2 => tb { D with nx := N, ct := N, bk := D.nx } σ2 H2) := by
  refine ⟨fun i m σ H => m = xs.length - i ∧ i ≤ xs.length ∧ Pv i σ H, ⟨xs.length, by simp, Nat.zero_le _, h0⟩, ?_⟩
  rintro i m σ H ⟨rfl, hi, p⟩
  have q := hl i σ H hi p
  by_cases hlt : i < xs.length
  · refine .inr ⟨⟨xs, xs[i], q, by simp [hlt]⟩, Pv (i + 1), fun σ' H' p' => ⟨xs.length - (i + 1), by omega, rfl, hlt, p'⟩, fun x H' y => ?_⟩
    obtain ⟨T, z, e1, hT, e2, y⟩ := y
    subst e1
    subst e2
    exact hs i z σ H T (y xs q) p hT
  · have e : i = xs.length := by omega
    subst e
    exact .inl ⟨⟨xs, q, Nat.le_refl _⟩, hd σ H p⟩
theorem c_forEn {xs : List α} {j l : Nat} (x0 : Ex B H) (h : ∃ v, Ev tl σ H v ∧ (eL E).R B v xs) (W : Nat → L2.St → Hp → Prop)
    (h0 : ∀ H1, Ex H H1 → W 0 σ H1) (hb : ∀ i σ' H', W i σ' H' → Ex B H')
    (hs : ∀ i x v σ' H' H2, xs[i]? = some x → E.R B v x → W i σ' H' → Ex H' H2 → tu { D with nx := W (i + 1), ct := W (i + 1), bk := D.nx } ((σ'.set j (some (.int (i : Int)))).set l (some v)) H2)
    (hd : ∀ σ' H', W xs.length σ' H' → D.nx σ' H') : tFor (iEnum K (tCons tl tNil)) (gTup K 2 (gCons (gName j) (gCons (gName l) gNil))) tu D σ H := by
  obtain ⟨v, hv, a, ws, e1, h2, h3⟩ := h
  exact hv H (Ex.refl _) _ fun H1 e => ⟨a, ws, by rw [e1], SqL.of (e _ _ (x0 _ _ h2)), for_enum (xs := ws) W (h0 H1 e) (fun i σ' H' _ p => SqL.of (hb _ _ _ p _ _ h2)) (fun i w σ' H' p hi hP hp => by
    obtain ⟨x, hx, hr⟩ := pgetV h3 hi
    exact ⟨p, _, rfl, SqT.of upd_same, rfl, _, _, rfl, _, _, rfl, rfl, hs i x w σ' H' _ hx hr hP (Ex.new hp)⟩) (fun σ' H' p => hd σ' H' (by rw [← pl h3]; exact p))⟩
theorem q_forEn {xs : List α} {j l : Nat} (x0 : Ex B H) (h : ∃ v, Ev tl σ H v ∧ (eL E).R B v xs) (W : Nat → L2.St → Hp → Prop)
    (h0 : ∀ H1, Ex H H1 → W 0 σ H1) (hb : ∀ i σ' H', W i σ' H' → Ex B H')
    (hs : ∀ i x v σ' H' H2, xs[i]? = some x → E.R B v x → W i σ' H' → Ex H' H2 → tu { D with nx := W (i + 1), ct := W (i + 1), bk := tz D } ((σ'.set j (some (.int (i : Int)))).set l (some v)) H2)
    (hd : ∀ σ' H', W xs.length σ' H' → tz D σ' H') : tSeq (tFor (iEnum K (tCons tl tNil)) (gTup K 2 (gCons (gName j) (gCons (gName l) gNil))) tu) tz D σ H :=
  c_forEn (D := { D with nx := tz D }) x0 h W h0 hb hs hd

/-! ### dicts of one's own: keys that are ints -/
theorem q_dnew (s0 : Stp B0 H0 B H) (k : ∀ p H1, H p = none → Ex H H1 → Stp B0 H0 B H1 → Cell H0 B H1 p (.dK []) → tz D (σ.set i (some (.ref p))) H1) : tSeq (tAsg tDNewK (gName i)) tz D σ H :=
  fun p hp => k p _ hp (Ex.new hp) (s0.goH (Ex.new hp)) ⟨fresh_back s0.eh hp, fresh_back s0.bh hp, upd_same⟩
def addK (ks : List Int) (x : Int) : List Int := if x ∈ ks then ks else ks ++ [x]
theorem keys_put {x : Int} {v : V} {kvs : List (Key × V)} {ks : List Int} (h : kvs.map (·.1) = ks.map Sum.inl) : (putK kvs (Sum.inl x) v).map (·.1) = (addK ks x).map Sum.inl := by
  unfold putK addK
  rw [valV_any, val_keys h]
  by_cases hx : x ∈ ks
  · rw [if_pos (decide_eq_true hx), if_pos hx, List.map_map, ← h]
    refine List.map_congr_left fun p _ => ?_
    show (if p.1 = Sum.inl x then (p.1, v) else p).1 = p.1
    split <;> rfl
  · rw [if_neg (by rw [decide_eq_false hx]; decide), if_neg hx, List.map_append, List.map_append, h]
    rfl
theorem c_dput {m : Addr} {kvs : List (Key × V)} {ks : List Int} {x : Int} {v : V} (c : Cell H0 B H m (.dK kvs)) (hk : kvs.map (·.1) = ks.map Sum.inl) (s0 : Stp B0 H0 B H) (hz : kvs.length < 100000)
    (hv : Ev te σ H v) (ho : σ[i]? = some (some (.ref m))) (hx : EvE eI ta σ B H x)
    (k : ∀ H1 kvs', Stp B0 H0 B H1 → Cell H0 B H1 m (.dK kvs') → kvs'.map (·.1) = (addK ks x).map Sum.inl → (∀ p o, p ≠ m → Cell H0 B H p o → Cell H0 B H1 p o) → D.nx σ H1) :
    sDPut (tVar i) ta te D σ H :=
  hv H (Ex.refl _) _ fun H1 e1 => ⟨.ref m, ho, ev_sI hx H1 e1 _ fun H2 e2 => ⟨m, _, rfl, DPut.k (k := Sum.inl x) (e2 _ _ (e1 _ _ c.h)) (sz_lt hz), by
    have e := e1.trans e2
    exact k _ _ ((c.go e).mut (s0.goH e)) (c.go e).same (keys_put hk) (fun p o ne d => (d.go e).other ne)⟩⟩
theorem q_dput {m : Addr} {kvs : List (Key × V)} {ks : List Int} {x : Int} {v : V} (c : Cell H0 B H m (.dK kvs)) (hk : kvs.map (·.1) = ks.map Sum.inl) (s0 : Stp B0 H0 B H) (hz : kvs.length < 100000)
    (hv : Ev te σ H v) (ho : σ[i]? = some (some (.ref m))) (hx : EvE eI ta σ B H x)
    (k : ∀ H1 kvs', Stp B0 H0 B H1 → Cell H0 B H1 m (.dK kvs') → kvs'.map (·.1) = (addK ks x).map Sum.inl → (∀ p o, p ≠ m → Cell H0 B H p o → Cell H0 B H1 p o) → tz D σ H1) :
    tSeq (sDPut (tVar i) ta te) tz D σ H := c_dput (D := { D with nx := tz D }) c hk s0 hz hv ho hx k
/-- {k: v} -/
theorem q_disp1 {x : Int} {v : V} (s0 : Stp B0 H0 B H) (hx : EvE eI ta σ B H x) (hv : Ev te σ H v) (k : ∀ p H1, H p = none → Ex H H1 → Stp B0 H0 B H1 → Cell H0 B H1 p (.dK [(Sum.inl x, v)]) → tz D (σ.set i (some (.ref p))) H1) :
    tSeq (tAsg (tDisp [(ta, te)]) (gName i)) tz D σ H := fun p hp => ev_sI hx _ (Ex.new hp) _ fun H1 e1 => hv H1 ((Ex.new hp).trans e1) _ fun H2 e2 =>
  ⟨e2 _ _ (e1 _ _ upd_same), [(Sum.inl x, v)], rfl, Nat.succ_le_succ (Nat.zero_le _), by
    have c : Cell H0 B H2 p (.dK []) := ⟨fresh_back s0.eh hp, fresh_back s0.bh hp, e2 _ _ (e1 _ _ upd_same)⟩
    have e : Ex H H2 := ((Ex.new hp).trans e1).trans e2
    exact k p _ hp (Ex.mut e hp) (c.mut (s0.goH e)) c.same⟩

/-! ### lists of one's own -/
/-- x = xs.pop() -/
theorem q_pop {l : Addr} {xs : List V} {y : V} {j : Nat} (c : Cell H0 B H l (.lst (xs ++ [y]))) (s0 : Stp B0 H0 B H) (ho : σ[i]? = some (some (.ref l)))
    (k : ∀ H1, Stp B0 H0 B H1 → Cell H0 B H1 l (.lst xs) → (∀ p o, p ≠ l → Cell H0 B H p o → Cell H0 B H1 p o) → tz D (σ.set j (some y)) H1) :
    tSeq (tAsg (tBM0 K "list" rPop (tVar i)) (gName j)) tz D σ H :=
  ⟨.ref l, ho, Or.inl ⟨rfl, _, SqL.of c.h⟩, l, xs ++ [y], y, rfl, rfl, c.h, by simp, by
    have e : (xs ++ [y]).dropLast = xs := by simp
    rw [e]
    exact k _ (c.mut s0) c.same (fun p o ne d => d.other ne)⟩
/-- xs[j] = e -/
theorem c_setL {l : Addr} {xs : List V} {j : Nat} {v : V} (c : Cell H0 B H l (.lst xs)) (s0 : Stp B0 H0 B H) (hv : Ev te σ H v) (ho : σ[i]? = some (some (.ref l))) (hj : EvE eI tb σ B H (j : Int)) (hz : j < xs.length)
    (k : ∀ H1, Stp B0 H0 B H1 → Cell H0 B H1 l (.lst (xs.set j v)) → (∀ p o, p ≠ l → Cell H0 B H p o → Cell H0 B H1 p o) → D.nx σ H1) : tAsg te (gSub (tVar i) tb rSetL) D σ H :=
  s_setL c.h hv (ev_var ho) (ev_sI hj) hz fun H1 e => k _ ((c.go e).mut (s0.goH e)) (c.go e).same (fun p o ne d => (d.go e).other ne)
theorem q_setL' {l : Addr} {xs : List V} {j : Nat} {v : V} (c : Cell H0 B H l (.lst xs)) (s0 : Stp B0 H0 B H) (hv : Ev te σ H v) (ho : σ[i]? = some (some (.ref l))) (hj : EvE eI tb σ B H (j : Int)) (hz : j < xs.length)
    (k : ∀ H1, Stp B0 H0 B H1 → Cell H0 B H1 l (.lst (xs.set j v)) → (∀ p o, p ≠ l → Cell H0 B H p o → Cell H0 B H1 p o) → tz D σ H1) : tSeq (tAsg te (gSub (tVar i) tb rSetL)) tz D σ H :=
  c_setL (D := { D with nx := tz D }) c s0 hv ho hj hz k
theorem c_rev {l : Addr} {xs : List V} (c : Cell H0 B H l (.lst xs)) (s0 : Stp B0 H0 B H) (ho : σ[i]? = some (some (.ref l)))
    (k : ∀ H1, Stp B0 H0 B H1 → Cell H0 B H1 l (.lst xs.reverse) → (∀ p o, p ≠ l → Cell H0 B H p o → Cell H0 B H1 p o) → D.nx σ H1) : tDrop (tBM0 K "list" rReverse (tVar i)) D σ H :=
  ⟨.ref l, ho, Or.inl ⟨rfl, _, SqL.of c.h⟩, l, xs, rfl, rfl, c.h, k _ (c.mut s0) c.same (fun p o ne d => d.other ne)⟩
theorem c_clear {l : Addr} {xs : List V} (c : Cell H0 B H l (.lst xs)) (s0 : Stp B0 H0 B H) (ho : σ[i]? = some (some (.ref l)))
    (k : ∀ H1, Stp B0 H0 B H1 → Cell H0 B H1 l (.lst []) → (∀ p o, p ≠ l → Cell H0 B H p o → Cell H0 B H1 p o) → D.nx σ H1) : tDrop (tBM0 K "list" rClear (tVar i)) D σ H :=
  ⟨.ref l, ho, Or.inl ⟨rfl, _, SqL.of c.h⟩, l, xs, rfl, rfl, c.h, k _ (c.mut s0) c.same (fun p o ne d => d.other ne)⟩
/-- a list of one's own, read -/
theorem cell_L {l : Addr} {vs : List V} {xs : List α} (c : Cell H0 B H l (.lst vs)) (hp : Paired (E.R H) vs xs) : (eL E).R H (.ref l) xs := ⟨l, vs, rfl, c.h, hp⟩
theorem cell_D {m : Addr} {kvs : List (Key × V)} {ks : List Int} (c : Cell H0 B H m (.dK kvs)) (hk : kvs.map (·.1) = ks.map Sum.inl) : eD.R H (.ref m) ks := ⟨m, kvs, rfl, c.h, hk⟩
/-- a new list of one's own becomes known -/
theorem cell_out {l : Addr} {vs : List V} {xs : List α} (c : Cell H0 B H l (.lst vs)) (s0 : Stp B0 H0 B H) (hp : Paired (E.R B) vs xs) : Stp B0 H0 (upd B l (.lst vs)) H ∧ (eL E).R (upd B l (.lst vs)) (.ref l) xs :=
  ⟨⟨s0.eb.trans (Ex.new c.b), s0.eh, fun a u q => by
    by_cases z : a = l
    · subst z
      rw [upd_same] at q
      cases q
      exact c.h
    · rw [upd_ne z] at q
      exact s0.bh a u q, fun a u q => by
    by_cases z : a = l
    · subst z
      exact .inr c.n
    · rw [upd_ne z] at q
      exact s0.nw a u q⟩, l, vs, rfl, upd_same, E.ups (Ex.new c.b) hp⟩
theorem cell_outD {m : Addr} {kvs : List (Key × V)} {ks : List Int} (c : Cell H0 B H m (.dK kvs)) (s0 : Stp B0 H0 B H) (hk : kvs.map (·.1) = ks.map Sum.inl) : Stp B0 H0 (upd B m (.dK kvs)) H ∧ eD.R (upd B m (.dK kvs)) (.ref m) ks :=
  ⟨⟨s0.eb.trans (Ex.new c.b), s0.eh, fun a u q => by
    by_cases z : a = m
    · subst z
      rw [upd_same] at q
      cases q
      exact c.h
    · rw [upd_ne z] at q
      exact s0.bh a u q, fun a u q => by
    by_cases z : a = m
    · subst z
      exact .inr c.n
    · rw [upd_ne z] at q
      exact s0.nw a u q⟩, m, kvs, rfl, upd_same, hk⟩
end
end RR
namespace RR
open PySem L2 Evl PyProof.Rows

/-! ### defs -/
def FunAt (K : PySem.W.Frag) (mg : Str → Option Value) (x : Str) (st : Stmt) : Prop := ∃ f fd, Fun K x x st f fd ∧ mg x = some (.ref f)
def DefOk (P : Program) (w : World) (K : PySem.W.Frag) (mg : Str → Option Value) (base : Heap) (k : Nat) (x : Str) (ps : List Str) (sp : Sp) : Prop :=
  ∃ f fd, FnOk P w K mg base CX0 k f fd ps sp ∧ mg x = some (.ref f) ∧ PySem.W.keepIn K (.ref f) = true ∧ Binds K fd ps []
def LenA (n : Nat) (A : Hp → List V → Prop) : Prop := ∀ B vs, A B vs → vs.length = n
theorem lenN : LenA 0 aN := fun _ _ h => by rw [show _ = [] from h]; rfl
theorem lenC {α : Type} {E : Enc α} {S : α → Prop} {A : Hp → List V → Prop} {n : Nat} (h : LenA n A) : LenA (n + 1) (aC E S A) := fun B vs ⟨v, x, r, e, _, _, ha⟩ => by
  rw [e, List.length_cons, h B r ha]
section
variable {P : Program} {w : World} {K : PySem.W.Frag} {mg : Str → Option Value} {base : Heap}
theorem mk_fn {ι β : Type} {A : ι → Hp → List V → Prop} {Pre : ι → Prop} {F : Enc β} {Post : ι → β → Prop} {x : Str} {st : Stmt} {N ps : List Str} {k : Nat} {f : Addr} {fd : FuncData} (F1 : Fun K x x st f fd) (S : FnScope N ps (defScope st))
    (hl : ∀ i, LenA ps.length (A i))
    (hbody : ∀ (cdv : Value) (A0 : Around) (outer : List Env) (s : Shared) (E : XK) (i : ι) (B H : Hp) (vs : List V) (Q : VK), Room k (A0.deeper (envOfC x (defScope st) s.heap.objs.size f cdv)) → Ex B H → A i B vs → Pre i →
      (∀ w y B2 H2, Stp B H B2 H2 → Post i y → F.R B2 w y → Q w H2) →
      ∃ t, PSs (cxOf CX0 P w K mg base N x (defScope st) f cdv A0 outer s H E).nox (defBody st) t ∧ t { nx := fun _ H' => Q .non H', rt := Q } (start N vs) H) : FnOk P w K mg base CX0 (k + 1) f fd ps (Spec A Pre F Post) := by
  refine F1.ok S (fun vs H Q E h => ?_) (fun cdv A0 outer s H vs Q E hr h => ?_)
  · obtain ⟨i, B, _, hA, _⟩ := h
    exact hl i B vs hA
  · obtain ⟨i, B, x0, hA, hp, q⟩ := h
    exact hbody cdv A0 outer s E i B H vs Q hr x0 hA hp q
theorem mk_def {ι β : Type} {A : ι → Hp → List V → Prop} {Pre : ι → Prop} {F : Enc β} {Post : ι → β → Prop} {x : Str} {st : Stmt} {N ps : List Str} {k : Nat} (F0 : FunAt K mg x st) (S : FnScope N ps (defScope st))
    (bi : ∀ (kV doc pm : Value) (an : Option Addr) (cdv ct : Value) (us : List Value), us.length = ps.length → bindArgs (PySem.W.fnOf x x (defArgs st) (defBody st) (defScope st) .none kV doc pm an cdv ct) ⟨us, []⟩ = pure (ps.zip us))
    (hl : ∀ i, LenA ps.length (A i))
    (hbody : ∀ (f : Addr) (cdv : Value) (A0 : Around) (outer : List Env) (s : Shared) (E : XK) (i : ι) (B H : Hp) (vs : List V) (Q : VK), Room k (A0.deeper (envOfC x (defScope st) s.heap.objs.size f cdv)) → Ex B H → A i B vs → Pre i →
      (∀ w y B2 H2, Stp B H B2 H2 → Post i y → F.R B2 w y → Q w H2) →
      ∃ t, PSs (cxOf CX0 P w K mg base N x (defScope st) f cdv A0 outer s H E).nox (defBody st) t ∧ t { nx := fun _ H' => Q .non H', rt := Q } (start N vs) H) : DefOk P w K mg base (k + 1) x ps (Spec A Pre F Post) := by
  obtain ⟨f, fd, F1, hm⟩ := F0
  refine ⟨f, fd, ?_, hm, F1.kp, F1.binds (ps := ps) bi⟩
  refine F1.ok S (fun vs H Q E h => ?_) (fun cdv A0 outer s H vs Q E hr h => ?_)
  · obtain ⟨i, B, _, hA, _⟩ := h
    exact hl i B vs hA
  · obtain ⟨i, B, x0, hA, hp, q⟩ := h
    exact hbody f cdv A0 outer s E i B H vs Q hr x0 hA hp q
theorem mk_defM {ι β : Type} {A : ι → Hp → List V → Prop} {Pre : ι → Prop} {F : Enc β} {Post : ι → List β → Prop} {x : Str} {st : Stmt} {N ps : List Str} {k : Nat} (F0 : FunAt K mg x st) (S : FnScope N ps (defScope st))
    (bi : ∀ (kV doc pm : Value) (an : Option Addr) (cdv ct : Value) (us : List Value), us.length = ps.length → bindArgs (PySem.W.fnOf x x (defArgs st) (defBody st) (defScope st) .none kV doc pm an cdv ct) ⟨us, []⟩ = pure (ps.zip us))
    (hl : ∀ i, LenA ps.length (A i))
    (hbody : ∀ (f : Addr) (cdv : Value) (A0 : Around) (outer : List Env) (s : Shared) (E : XK) (i : ι) (B H : Hp) (vs : List V) (Q : VK), Room k (A0.deeper (envOfC x (defScope st) s.heap.objs.size f cdv)) → Ex B H → A i B vs → Pre i →
      (∀ p ws ys B2 H2, Stp B H B2 H2 → H p = none → B2 p = none → H2 p = some (.lst ws) → Post i ys → Paired (F.R B2) ws ys → Q (.ref p) H2) →
      ∃ t, PSs (cxOf CX0 P w K mg base N x (defScope st) f cdv A0 outer s H E).nox (defBody st) t ∧ t { nx := fun _ H' => Q .non H', rt := Q } (start N vs) H) : DefOk P w K mg base (k + 1) x ps (SpecM A Pre F Post) := by
  obtain ⟨f, fd, F1, hm⟩ := F0
  refine ⟨f, fd, ?_, hm, F1.kp, F1.binds (ps := ps) bi⟩
  refine F1.ok S (fun vs H Q E h => ?_) (fun cdv A0 outer s H vs Q E hr h => ?_)
  · obtain ⟨i, B, _, hA, _⟩ := h
    exact hl i B vs hA
  · obtain ⟨i, B, x0, hA, hp, q⟩ := h
    exact hbody f cdv A0 outer s E i B H vs Q hr x0 hA hp q
end
section
variable {X : Cx} {k : Nat} {x : Str} {ps : List Str} {sp : Sp} {p pos : Pos} {e : Expr} {es : List Expr} {t : TA}
theorem pe_callD (D : DefOk X.prog X.w X.K X.mg X.base k x ps sp) (hr : Room k X.A) (hg : Gl X x) (ha : PA X (e :: es) t) (hdb : (x == ("__debug__" : Str)) = false := by decide)
    (he : starEach (e :: es) X.env = (false, eval e X.env) :: starEach es X.env := by rfl) (hpl : (backTo pos (starEach es X.env)).any (·.1) = false := by rfl) :
    PE X (.Call (.Name x p) (e :: es) [] pos) (tCall sp [] E0 t) := by
  obtain ⟨f, fd, G, hm, hk, hb⟩ := D
  exact pe_call G hr hg hm hk hb .nil pass0 ha hdb he hpl
end

/-! ### great ints -/
def CMulX (i j : Int) : Prop := i.natAbs.log2 + j.natAbs.log2 < 100000000
theorem CMulX.ok {i j : Int} (h : CMulX i j) : IntMulOk i j := by
  have b : ∀ x : Int, Builtin.Int.intBits x ≤ x.natAbs.log2 + 1 := fun x => by
    unfold Builtin.Int.intBits
    split <;> omega
  have h1 := b i
  have h2 := b j
  have h3 : i.natAbs.log2 + j.natAbs.log2 < 100000000 := h
  have e : bitsLine = 134217728 := by decide
  unfold IntMulOk
  intro z
  rw [Bool.and_eq_true] at z
  have z2 := z.2
  unfold Builtin.Int.intTooBig at z2
  have z3 := of_decide_eq_true z2
  rw [e] at z3
  omega
theorem op_mulX {X : Cx} : OpR X (binaryOp .Mult) (rI CMulX fun i j => .int (i * j)) := opI fun _ _ _ _ _ _ _ hc q => mul_int q hc.ok
/-- an int that is not too great -/
def Bd (n : Int) : Prop := n.natAbs.log2 ≤ 2000000
theorem log2_mono {a b : Nat} (h : a ≤ b) : a.log2 ≤ b.log2 := by
  by_cases h0 : a = 0
  · subst h0
    exact Nat.zero_le _
  · have hb : b ≠ 0 := by omega
    rw [Nat.le_log2 hb]
    exact Nat.le_trans (Nat.log2_self_le h0) h
theorem Bd.le {m n : Int} (h : Bd n) (e : m.natAbs ≤ n.natAbs) : Bd m := Nat.le_trans (log2_mono e) h
theorem Bd.div {n : Int} (h : Bd n) {j : Int} (hj : 0 < j) : Bd (n / j) := h.le (by
  have h1 := Int.emod_add_mul_ediv n j
  have h2 := Int.emod_nonneg n (show j ≠ 0 by omega)
  have h3 := Int.emod_lt_of_pos n hj
  by_cases hn : 0 ≤ n
  · have h4 : 0 ≤ n / j := Int.ediv_nonneg hn (by omega)
    have h5 : n / j ≤ n := Int.ediv_le_self j hn
    omega
  · have h4 : n / j < 0 := Int.ediv_neg_of_neg_of_pos (by omega) hj
    have h5 : n ≤ n / j := by
      have q : (n / j + 1) * j ≤ (n / j + 1) * 1 := Int.mul_le_mul_of_nonpos_left (by omega) (by omega)
      have q2 : (n / j + 1) * j = j * (n / j) + j := by rw [Int.add_mul, Int.one_mul, Int.mul_comm]
      omega
    omega)
theorem Bd.small {n : Int} (h : n.natAbs < 2 ^ 64) : Bd n := by
  unfold Bd
  by_cases h0 : n.natAbs = 0
  · rw [h0]
    decide
  · have := (Nat.log2_lt h0).mpr h
    omega
theorem Bd.bits {n : Int} (h : Builtin.Int.intBits n ≤ 1048576) : Bd n := by
  unfold Bd
  unfold Builtin.Int.intBits at h
  split at h
  · rename_i z
    have e : n.natAbs = 0 := by
      first
        | exact z
        | (simp at z; omega)
    rw [e]
    decide
  · omega
theorem Bd.mul {n j : Int} (h : Bd n) (hj : j.natAbs.log2 < 1000) : CMulX n j := by
  unfold CMulX
  unfold Bd at h
  omega

/-! ### the script: a list that H may only read -/
def eScr (K : PySem.W.Frag) : Enc (List Int) := ⟨fun H v ns => ∃ a, v = .ref a ∧ SqL K H a (ns.map V.int), fun e ⟨a, h1, h2⟩ => ⟨a, h1, ex_l e h2⟩⟩
section
variable {te ta tb tl : TE} {to1 to2 : TO} {σ : L2.St} {B H : Hp} {K : PySem.W.Frag}
theorem es_lenS {ns : List Int} (x0 : Ex B H) (h : EvE (eScr K) ta σ B H ns) : EvE eI (tCB (rLenS K) (tCons ta tNil)) σ B H (ns.length : Int) :=
  es_cb1 x0 h fun v B2 H2 x2 ⟨a, h1, h2⟩ Q k => ⟨a, _, by rw [h1], .inl (ex_l x2 h2), by rw [List.length_map]; exact k _ _ B2 H2 (Stp.refl x2) rfl rfl⟩
theorem es_ixS {ns : List Int} {i n : Int} (x0 : Ex B H) (ha : EvE (eScr K) ta σ B H ns) (hb : EvE eI tb σ B H i) (h0 : 0 ≤ i) (hx : ns[i.toNat]? = some n) : EvE eI (tOp (rIxL K) ta tb) σ B H n :=
  es_op x0 ha hb fun v w B2 H2 x2 ⟨a, h1, h2⟩ hw => ⟨.int n, rfl, fun Q q => ⟨a, _, i, .int n, h1, hw, ex_l x2 h2, atI_of h0 (by rw [List.getElem?_map, hx]; rfl), q⟩⟩
theorem em_slS {ns : List Int} {lo hi : Option Int} (x0 : Ex B H) (h : EvE (eScr K) te σ B H ns) (h1 : EvO to1 σ H lo) (h2 : EvO to2 σ H hi) : EvM eI (tSl (rSlL K) te to1 to2) σ B H (fun ys => ys = cutP ns lo hi) := fun H1 e Q k =>
  h H1 e _ fun v x' B2 H2 t hx hR => by
    cases hx
    obtain ⟨a, rfl, q2⟩ := hR
    refine h1 H2 (e.trans t.eh) _ fun H3 e3 => h2 H3 ((e.trans t.eh).trans e3) _ fun H4 e4 => ⟨a, _, rfl, ex_l ((t.bh.trans e3).trans e4) q2, fun p hp => ?_⟩
    have s := t.goH (e3.trans e4)
    refine k p _ _ B2 _ (s.goH (Ex.new hp)) (fresh_back s.eh hp) (fresh_back s.bh hp) upd_same rfl (pcut lo hi (pI' (H := B2) ns))
/-- the cell of the script at k, or nought -/
def cellM (ns : List Int) (k : Int) : Int := if k < (ns.length : Int) then ns.getD k.toNat 0 else 0
theorem cellM_bd {ns : List Int} (h : ∀ n ∈ ns, Bd n) (k : Int) : Bd (cellM ns k) := by
  unfold cellM
  split
  · rw [List.getD_eq_getElem?_getD]
    cases e : ns[k.toNat]? with
    | none => exact Bd.small (by decide)
    | some n => exact h n (List.mem_of_getElem? e)
  · exact Bd.small (by decide)
end
theorem cutP_mem {α : Type} {xs : List α} {lo hi : Option Int} {x : α} (h : x ∈ cutP xs lo hi) : x ∈ xs := by
  unfold cutP at h
  exact List.mem_of_mem_drop (List.mem_of_mem_take h)
theorem cutP_len {α : Type} (xs : List α) (lo hi : Option Int) : (cutP xs lo hi).length ≤ xs.length := by
  unfold cutP
  rw [List.length_take, List.length_drop]
  omega
/-! ### the numbers of those that a test takes -/
def sel {α : Type} (p : α → Bool) (xs : List α) (i : Nat) : List Int := ((List.range i).filter fun k => (xs[k]?).any p).map fun (k : Nat) => (k : Int)
theorem sel_zero {α : Type} (p : α → Bool) (xs : List α) : sel p xs 0 = [] := rfl
theorem sel_succ {α : Type} {p : α → Bool} {xs : List α} {i : Nat} {x : α} (h : xs[i]? = some x) : sel p xs (i + 1) = sel p xs i ++ if p x then [(i : Int)] else [] := by
  unfold sel
  rw [List.range_succ, List.filter_append, List.map_append]
  congr 1
  rw [List.filter_cons, h]
  cases hp : p x <;> simp [hp]
theorem sel_yes {α : Type} {p : α → Bool} {xs : List α} {i : Nat} {x : α} (h : xs[i]? = some x) (hp : p x = true) : sel p xs (i + 1) = sel p xs i ++ [(i : Int)] := by
  rw [sel_succ h, hp, if_pos rfl]
theorem sel_no {α : Type} {p : α → Bool} {xs : List α} {i : Nat} {x : α} (h : xs[i]? = some x) (hp : p x = false) : sel p xs (i + 1) = sel p xs i := by
  rw [sel_succ h, hp, if_neg Bool.false_ne_true, List.append_nil]
theorem sel_len {α : Type} (p : α → Bool) (xs : List α) (i : Nat) : (sel p xs i).length ≤ i := by
  unfold sel
  rw [List.length_map]
  have h := List.length_filter_le (fun k => (xs[k]?).any p) (List.range i)
  rw [List.length_range] at h
  exact h
theorem mem_sel {α : Type} {p : α → Bool} {xs : List α} {i : Nat} {k : Int} : k ∈ sel p xs i ↔ 0 ≤ k ∧ k < (i : Int) ∧ ∃ x, xs[k.toNat]? = some x ∧ p x = true := by
  unfold sel
  rw [List.mem_map]
  constructor
  · rintro ⟨a, ha, rfl⟩
    rw [List.mem_filter, List.mem_range] at ha
    obtain ⟨h1, h2⟩ := ha
    refine ⟨by omega, by omega, ?_⟩
    rw [Int.toNat_natCast]
    cases e : xs[a]? with
    | none =>
      rw [e] at h2
      cases h2
    | some x =>
      rw [e] at h2
      exact ⟨x, rfl, h2⟩
  · rintro ⟨h0, h1, x, hx, hp⟩
    refine ⟨k.toNat, ?_, by omega⟩
    rw [List.mem_filter, List.mem_range, hx]
    exact ⟨by omega, hp⟩
theorem map_snoc (xs : List Int) (x : Int) : (xs ++ [x]).map V.int = xs.map V.int ++ [V.int x] := by rw [List.map_append]; rfl
end RR
namespace RR
open PySem L2 Evl PyProof.Rows

/-! ### what stands for plain data -/
structure De {α : Type} (E : Enc α) (n : Nat) where
  d : α → PyData
  ok : ∀ {K : PySem.W.Frag} {H : Hp} {v : V} {x : α}, E.R H v x → Dp K H v (d x)
  lay : ∀ x, (d x).canLay0 = true
  dep : ∀ x, (d x).depth ≤ n
section
variable {α β γ : Type} {E : Enc α} {F : Enc β} {G : Enc γ} {n m l : Nat}
def deI : De eI 0 := ⟨fun i => .int i, fun h => by cases h; exact .int _, fun _ => rfl, fun _ => Nat.le_refl _⟩
def deB : De eB 0 := ⟨fun i => .bool i, fun h => by cases h; exact .bl _, fun _ => rfl, fun _ => Nat.le_refl _⟩
def dO : Option Int → PyData
  | none => .none
  | some i => .int i
def deO : De eO 0 := ⟨dO, fun {K H v x} h => by
  cases x with
  | none => cases h; exact .non
  | some i => cases h; exact .int _, fun x => by cases x <;> rfl, fun x => by cases x <;> exact Nat.le_refl _⟩
theorem dp_all (D : De E n) {K : PySem.W.Frag} {H : Hp} : ∀ {vs : List V} {xs : List α}, Paired (E.R H) vs xs → DpAll K H vs (xs.map D.d)
  | _, _, .nil => .nil
  | _, _, .cons r t => .cons (D.ok r) (dp_all D t)
theorem lay_all (D : De E n) : ∀ xs : List α, PyData.canLayAll0 (xs.map D.d) = true
  | [] => rfl
  | x :: r => by
    rw [List.map_cons]
    show (PyData.canLay0 (D.d x) && PyData.canLayAll0 (r.map D.d)) = true
    rw [D.lay x, lay_all D r]
    rfl
theorem dep_all (D : De E n) : ∀ xs : List α, PyData.depthAll (xs.map D.d) ≤ n
  | [] => Nat.zero_le _
  | x :: r => by
    rw [List.map_cons]
    show max (PyData.depth (D.d x)) (PyData.depthAll (r.map D.d)) ≤ n
    have h1 := D.dep x
    have h2 := dep_all D r
    omega
def deL (D : De E n) : De (eL E) (n + 1) := ⟨fun xs => .list (xs.map D.d), fun ⟨a, vs, h1, h2, h3⟩ => by
  subst h1
  exact .lst (SqL.of h2) (dp_all D h3), fun xs => lay_all D xs, fun xs => Nat.succ_le_succ (dep_all D xs)⟩
def deT (D : De E n) : De (eT E) (n + 1) := ⟨fun xs => .tuple (xs.map D.d), fun ⟨a, vs, h1, h2, h3⟩ => by
  subst h1
  exact .tup (SqT.of h2) (dp_all D h3), fun xs => lay_all D xs, fun xs => Nat.succ_le_succ (dep_all D xs)⟩
def de2 (D : De E n) (D' : De F m) : De (e2 E F) (n + m + 1) := ⟨fun x => .tuple [D.d x.1, D'.d x.2], fun ⟨a, u, w, h1, h2, h3, h4⟩ => by
  subst h1
  exact .tup (SqT.of h2) (.cons (D.ok h3) (.cons (D'.ok h4) .nil)), fun x => by
    show (PyData.canLay0 (D.d x.1) && (PyData.canLay0 (D'.d x.2) && true)) = true
    rw [D.lay, D'.lay]
    rfl, fun x => by
    show max (PyData.depth (D.d x.1)) (max (PyData.depth (D'.d x.2)) 0) + 1 ≤ n + m + 1
    have h1 := D.dep x.1
    have h2 := D'.dep x.2
    omega⟩
def de3 (D : De E n) (D' : De F m) (D'' : De G l) : De (e3 E F G) (n + m + l + 1) := ⟨fun x => .tuple [D.d x.1, D'.d x.2.1, D''.d x.2.2], fun ⟨a, u, w, z, h1, h2, h3, h4, h5⟩ => by
  subst h1
  exact .tup (SqT.of h2) (.cons (D.ok h3) (.cons (D'.ok h4) (.cons (D''.ok h5) .nil))), fun x => by
    show (PyData.canLay0 (D.d x.1) && (PyData.canLay0 (D'.d x.2.1) && (PyData.canLay0 (D''.d x.2.2) && true))) = true
    rw [D.lay, D'.lay, D''.lay]
    rfl, fun x => by
    show max (PyData.depth (D.d x.1)) (max (PyData.depth (D'.d x.2.1)) (max (PyData.depth (D''.d x.2.2)) 0)) + 1 ≤ n + m + l + 1
    have h1 := D.dep x.1
    have h2 := D'.dep x.2.1
    have h3 := D''.dep x.2.2
    omega⟩
abbrev deR : De eR 1 := de3 deI deI deI
theorem De.sh (D : De E n) (h : n ≤ 64) (x : α) : SeqAt.shaped (D.d x) = true := by
  show ((D.d x).canLay0 && decide ((D.d x).depth ≤ 64)) = true
  rw [D.lay x, decide_eq_true (Nat.le_trans (D.dep x) h)]
  rfl
theorem De.refl (D : De E n) (x : α) : PyData.eqv (D.d x) (D.d x) = true := SeqAt.eqv_refl _ (D.lay x)
end

section
variable {α β γ δ ε : Type} {E : Enc α} {F : Enc β} {G : Enc γ} {n m : Nat}
variable {te ta tb tc tl : TE} {tt : TT} {σ : L2.St} {B H B0 H0 B1 H1 : Hp} {S : α → Prop} {K : PySem.W.Frag} {D : Ends} {tu tw tz : TS} {i : Nat}
theorem es_eqD {x : α} {y : β} (De1 : De E n) (De2 : De F m) (hn : n ≤ 64) (hm : m ≤ 64) (x0 : Ex B H) (ha : EvE E ta σ B H x) (hb : EvE F tb σ B H y) : EvE eB (tOp (rEqD K) ta tb) σ B H (PyData.eqv (De1.d x) (De2.d y)) :=
  es_op x0 ha hb fun v w B2 H2 x2 hv hw => ⟨_, rfl, fun Q q => ⟨_, _, De1.ok (E.up x2 hv), De2.ok (F.up x2 hw), De1.sh hn x, De2.sh hm y, q⟩⟩
theorem es_neD {x : α} {y : β} (De1 : De E n) (De2 : De F m) (hn : n ≤ 64) (hm : m ≤ 64) (x0 : Ex B H) (ha : EvE E ta σ B H x) (hb : EvE F tb σ B H y) : EvE eB (tOp (rNeD K) ta tb) σ B H (!PyData.eqv (De1.d x) (De2.d y)) :=
  es_op x0 ha hb fun v w B2 H2 x2 hv hw => ⟨_, rfl, fun Q q => ⟨_, _, De1.ok (E.up x2 hv), De2.ok (F.up x2 hw), De1.sh hn x, De2.sh hm y, q⟩⟩
theorem es_eqSame {x : α} (De1 : De E n) (hn : n ≤ 64) (x0 : Ex B H) (ha : EvE E ta σ B H x) (hb : EvE E tb σ B H x) : EvE eB (tOp (rEqD K) ta tb) σ B H true := (es_eqD De1 De1 hn hn x0 ha hb).to (De1.refl x)
theorem es_neSame {x : α} (De1 : De E n) (hn : n ≤ 64) (x0 : Ex B H) (ha : EvE E ta σ B H x) (hb : EvE E tb σ B H x) : EvE eB (tOp (rNeD K) ta tb) σ B H false := (es_neD De1 De1 hn hn x0 ha hb).to (by rw [De1.refl x]; rfl)

/-! ### isinstance -/
theorem es_isi {c a : String} {b : Bool} (x0 : Ex B H) (ha : EvS E ta σ B H S) (ty : ∀ x v B2 H2, Ex B2 H2 → S x → E.R B2 v x → TyX K H2 v (.type a)) (h : kitB a c = some b) : EvE eB (tCB (rIsi K) (tCons ta (tCons (tC (.ty c)) tNil))) σ B H b := fun H1 e Q k =>
  ha H1 e _ fun v x B2 H2 t hS hR => ⟨v, .ty c, _, _, b, rfl, .ty c, ty x v B2 H2 t.bh hS hR, kit_ty h, k _ _ B2 H2 t rfl rfl⟩
theorem es_isiI {c : String} {b : Bool} {S : Int → Prop} (x0 : Ex B H) (ha : EvS eI ta σ B H S) (h : kitB "int" c = some b) : EvE eB (tCB (rIsi K) (tCons ta (tCons (tC (.ty c)) tNil))) σ B H b :=
  es_isi x0 ha (fun x v B2 H2 _ _ hR => by cases hR; exact .base (.int _)) h
theorem es_isiB {c : String} {b : Bool} {S : Bool → Prop} (x0 : Ex B H) (ha : EvS eB ta σ B H S) (h : kitB "bool" c = some b) : EvE eB (tCB (rIsi K) (tCons ta (tCons (tC (.ty c)) tNil))) σ B H b :=
  es_isi x0 ha (fun x v B2 H2 _ _ hR => by cases hR; exact .base (.bl _)) h
theorem es_isiN {c : String} {b : Bool} (x0 : Ex B H) (ha : EvE eO ta σ B H none) (h : kitB "NoneType" c = some b) : EvE eB (tCB (rIsi K) (tCons ta (tCons (tC (.ty c)) tNil))) σ B H b :=
  es_isi x0 ha (fun x v B2 H2 _ hS hR => by cases hS; cases hR; exact .base .non) h
theorem es_isiL {c : String} {b : Bool} {S : List α → Prop} (x0 : Ex B H) (ha : EvS (eL E) ta σ B H S) (h : kitB "list" c = some b) : EvE eB (tCB (rIsi K) (tCons ta (tCons (tC (.ty c)) tNil))) σ B H b :=
  es_isi x0 ha (fun x v B2 H2 x2 _ ⟨a, vs, h1, h2, _⟩ => by subst h1; exact .base (.lst (x2 _ _ h2))) h
theorem es_isiT {c : String} {b : Bool} {S : List α → Prop} (x0 : Ex B H) (ha : EvS (eT E) ta σ B H S) (h : kitB "tuple" c = some b) : EvE eB (tCB (rIsi K) (tCons ta (tCons (tC (.ty c)) tNil))) σ B H b :=
  es_isi x0 ha (fun x v B2 H2 x2 _ ⟨a, vs, h1, h2, _⟩ => by subst h1; exact .base (.tup (x2 _ _ h2))) h
theorem es_isi2 {c : String} {b : Bool} {S : α × β → Prop} (x0 : Ex B H) (ha : EvS (e2 E F) ta σ B H S) (h : kitB "tuple" c = some b) : EvE eB (tCB (rIsi K) (tCons ta (tCons (tC (.ty c)) tNil))) σ B H b :=
  es_isi x0 ha (fun x v B2 H2 x2 _ ⟨a, u, w, h1, h2, _⟩ => by subst h1; exact .base (.tup (x2 _ _ h2))) h
theorem es_isi3 {c : String} {b : Bool} {S : α × β × γ → Prop} (x0 : Ex B H) (ha : EvS (e3 E F G) ta σ B H S) (h : kitB "tuple" c = some b) : EvE eB (tCB (rIsi K) (tCons ta (tCons (tC (.ty c)) tNil))) σ B H b :=
  es_isi x0 ha (fun x v B2 H2 x2 _ ⟨a, u, w, z, h1, h2, _⟩ => by subst h1; exact .base (.tup (x2 _ _ h2))) h
theorem k_ii : kitB "int" "int" = some true := by decide +kernel
theorem k_ib : kitB "int" "bool" = some false := by decide +kernel
theorem k_ll : kitB "list" "list" = some true := by decide +kernel
theorem k_tt : kitB "tuple" "tuple" = some true := by decide +kernel
theorem k_bb : kitB "bool" "bool" = some true := by decide +kernel
theorem k_bi : kitB "bool" "int" = some true := by decide +kernel
theorem k_ni : kitB "NoneType" "int" = some false := by decide +kernel
theorem k_nb : kitB "NoneType" "bool" = some false := by decide +kernel
theorem k_nl : kitB "NoneType" "list" = some false := by decide +kernel
/-- isinstance(x, int) and not isinstance(x, bool) of an int; the other way round -/
theorem et_whole {S : Int → Prop} (x0 : Ex B H) (ha : EvS eI ta σ B H S) (hb : EvS eI tb σ B H S) :
    EvT (tOr (tNot (tB (tCB (rIsi K) (tCons ta (tCons (tC (.ty "int")) tNil))))) (tB (tCB (rIsi K) (tCons tb (tCons (tC (.ty "bool")) tNil))))) σ H false :=
  et_or (et_not (et_sB (es_isiI x0 ha k_ii))) fun _ => et_sB (es_isiI x0 hb k_ib)

/-! ### ends, ifs -/
theorem c_ret {T : β → Prop} (s : Stp B0 H0 B H) (h : EvS F te σ B H T) (k : ∀ w y B2 H2, Stp B0 H0 B2 H2 → T y → F.R B2 w y → D.rt w H2) : tRet te D σ H := by
  exact h H (Ex.refl _) _ fun w y B2 H2 t hT hR => k w y B2 H2 (s.trans t) hT hR
theorem c_retM {T : List β → Prop} (s : Stp B0 H0 B H) (h : EvM F te σ B H T) (k : ∀ p ws ys B2 H2, Stp B0 H0 B2 H2 → H0 p = none → B2 p = none → H2 p = some (.lst ws) → T ys → Paired (F.R B2) ws ys → D.rt (.ref p) H2) : tRet te D σ H :=
  h H (Ex.refl _) _ fun p ws ys B2 H2 t hp bp hl hT hR => k p ws ys B2 H2 (s.trans t) (fresh_back s.eh hp) bp hl hT hR
theorem set_same {ξ : Type} {xs : List ξ} {i : Nat} {a : ξ} (h : xs[i]? = some a) : xs.set i a = xs := by
  obtain ⟨h1, h2⟩ := List.getElem?_eq_some_iff.mp h
  rw [← h2]
  exact List.set_getElem_self h1
/-- if c: x = e, an int -/
theorem q_ifSetI {b : Bool} {T : Int → Prop} (ht : EvT tt σ H b) (x0 : Ex B H) (h1 : b = true → EvS eI te σ B H T) (h2 : b = false → ∃ n, σ[i]? = some (some (.int n)) ∧ T n) (k : ∀ n B1 H1, Stp B H B1 H1 → T n → tz D (σ.set i (some (.int n))) H1) :
    tSeq (tIfS tt (tAsg te (gName i)) tNext) tz D σ H :=
  q_when ht (fun hb H1 e => (h1 hb).up (Stp.go x0 e) H1 (Ex.refl _) _ fun v n B1 H2 s hT hR => by
    cases hR
    exact k n B1 H2 ((Stp.go x0 e).trans s) hT) (fun hb H1 e => by
    obtain ⟨n, hn, hT⟩ := h2 hb
    have q := k n B H1 (Stp.go x0 e) hT
    rw [set_same hn] at q
    exact q)
/-- a list, a dict of one's own becomes known -/
theorem cell_pub {a : Addr} {vs : List V} {xs : List α} (c : Cell H0 B H a (.lst vs)) (s0 : Stp B0 H0 B H) (hp : Paired (E.R B) vs xs) :
    ∃ B1, Stp B0 H0 B1 H ∧ Ex B B1 ∧ (eL E).R B1 (.ref a) xs ∧ ∀ p o, p ≠ a → Cell H0 B H p o → Cell H0 B1 H p o := by
  obtain ⟨t, r⟩ := cell_out (E := E) c s0 hp
  exact ⟨_, t, Ex.new c.b, r, fun p o ne d => ⟨d.n, by rw [upd_ne ne]; exact d.b, d.h⟩⟩
theorem cell_pubD {a : Addr} {kvs : List (Key × V)} {ks : List Int} (c : Cell H0 B H a (.dK kvs)) (s0 : Stp B0 H0 B H) (hk : kvs.map (·.1) = ks.map Sum.inl) :
    ∃ B1, Stp B0 H0 B1 H ∧ Ex B B1 ∧ eD.R B1 (.ref a) ks ∧ ∀ p o, p ≠ a → Cell H0 B H p o → Cell H0 B1 H p o := by
  obtain ⟨t, r⟩ := cell_outD c s0 hk
  exact ⟨_, t, Ex.new c.b, r, fun p o ne d => ⟨d.n, by rw [upd_ne ne]; exact d.b, d.h⟩⟩
/-- an item of a list, any -/
theorem es_ixLM {xs : List α} {j : Int} (x0 : Ex B H) (ha : EvE (eL E) ta σ B H xs) (hb : EvE eI tb σ B H j) (h0 : 0 ≤ j) (h1 : j < (xs.length : Int)) : EvS E (tOp (rIxL K) ta tb) σ B H (fun x => x ∈ xs) := by
  have hj : j.toNat < xs.length := by omega
  refine (es_ixL (x := xs[j.toNat]) x0 ha hb h0 (List.getElem?_eq_getElem hj)).imp fun y hy => ?_
  subst hy
  exact List.getElem_mem hj
theorem pair_all {P : β → Prop} {R : α → β → Prop} (h : ∀ x y, R x y → P y) : ∀ {xs : List α} {ys : List β}, Paired R xs ys → ∀ y ∈ ys, P y
  | _, _, .nil, _, m => by cases m
  | _, _, .cons r t, y, m => by
    rcases List.mem_cons.mp m with e | m
    · subst e
      exact h _ _ r
    · exact pair_all h t y m
theorem pair_len {R : α → β → Prop} {xs : List α} {ys : List β} (h : Paired R xs ys) : ys.length = xs.length := (Paired.length h).symm
end
/-! ### s + d round m -/
theorem emod_add_lt {s d m : Int} (h0 : 0 ≤ s) (h1 : s < m) (h2 : 0 ≤ d) (h3 : d < m) : (s + d) % m = if s + d < m then s + d else s + d - m := by
  split
  · exact Int.emod_eq_of_lt (by omega) (by omega)
  · have e : (s + d) % m = (s + d - m) % m := by rw [Int.sub_emod_right]
    rw [e]
    exact Int.emod_eq_of_lt (by omega) (by omega)
/-- a road between two of so many places -/
def OkR (m : Int) (r : Road) : Prop := 0 ≤ r.1 ∧ r.1 < m ∧ 0 ≤ r.2.1 ∧ r.2.1 < m ∧ r.1 ≠ r.2.1 ∧ 0 ≤ r.2.2 ∧ r.2.2 < 10000000000000000000000000000000000000000
end RR
namespace RR
open PySem L2 Evl PyProof.Rows
section
variable {α β γ δ ε : Type} {E : Enc α} {F : Enc β} {G : Enc γ} {n m : Nat}
variable {te ta tb tc tl : TE} {tt : TT} {σ : L2.St} {B H B0 H0 B1 H1 : Hp} {S : α → Prop} {K : PySem.W.Frag} {D : Ends} {tu tw tz : TS} {i : Nat}
theorem es_andV {a b : Bool} (x0 : Ex B H) (ha : EvE eB ta σ B H a) (hb : a = true → EvE eB tb σ B H b) : EvE eB (tAndV ta tb) σ B H (a && b) := es_evB x0 (ev_andV (ev_sB ha) fun h => ev_sB (hb h))
theorem es_orV {a b : Bool} (x0 : Ex B H) (ha : EvE eB ta σ B H a) (hb : a = false → EvE eB tb σ B H b) : EvE eB (tOrV ta tb) σ B H (a || b) := es_evB x0 (ev_orV (ev_sB ha) fun h => ev_sB (hb h))
theorem es_notV {a : Bool} (x0 : Ex B H) (ha : EvE eB ta σ B H a) : EvE eB (tNotV ta) σ B H (!a) := es_evB x0 (ev_notV (ev_sB ha))
theorem es_len3 {t : α × β × γ} (x0 : Ex B H) (h : EvE (e3 E F G) ta σ B H t) : EvE eI (tCB (rLenS K) (tCons ta tNil)) σ B H 3 :=
  es_cb1 x0 h fun v B2 H2 x2 ⟨a, u, w, z, h1, h2, _⟩ Q k => ⟨a, _, by rw [h1], .inr (SqT.of (x2 _ _ h2)), k _ _ B2 H2 (Stp.refl x2) rfl rfl⟩
theorem es_len2 {t : α × β} (x0 : Ex B H) (h : EvE (e2 E F) ta σ B H t) : EvE eI (tCB (rLenS K) (tCons ta tNil)) σ B H 2 :=
  es_cb1 x0 h fun v B2 H2 x2 ⟨a, u, w, h1, h2, _⟩ Q k => ⟨a, _, by rw [h1], .inr (SqT.of (x2 _ _ h2)), k _ _ B2 H2 (Stp.refl x2) rfl rfl⟩
/-- xs.append(n), an int: nothing more is known -/
theorem c_appI {l : Addr} {xs : List V} {n : Int} (c : Cell H0 B H l (.lst xs)) (s0 : Stp B0 H0 B H) (ho : σ[i]? = some (some (.ref l))) (hz : xs.length < 100000) (h : EvE eI te σ B H n)
    (k : ∀ H1, Stp B0 H0 B H1 → Cell H0 B H1 l (.lst (xs ++ [.int n])) → (∀ p o, p ≠ l → Cell H0 B H p o → Cell H0 B H1 p o) → D.nx σ H1) :
    tDrop (tBM K "list" rAppend (tVar i) (tCons te tNil)) D σ H :=
  ⟨.ref l, ho, Or.inl ⟨rfl, xs, SqL.of c.h⟩, ev_sI h H (Ex.refl _) _ fun H1 e => ⟨l, xs, .int n, rfl, rfl, e _ _ c.h, sz_lt hz,
    k _ ((c.go e).mut (s0.goH e)) (c.go e).same (fun p o ne d => (d.go e).other ne)⟩⟩
/-- a list as a test -/
theorem et_truL {xs : List α} (h : ∃ v, Ev ta σ H v ∧ (eL E).R H v xs) : EvT (fun σ H Q => ta σ H fun x H' => ∃ k, TruV K x H' k ∧ Q k H') σ H (!xs.isEmpty) := fun H1 e Q q => by
  obtain ⟨v, hv, a, vs, h1, h2, h3⟩ := h
  subst h1
  refine hv H1 e _ fun H2 e2 => ⟨!xs.isEmpty, .inl ⟨vs, SqL.of (e2 _ _ (e _ _ h2)), ?_⟩, q H2 e2⟩
  have hl := pl h3
  cases xs <;> cases vs <;> first | rfl | cases hl
theorem e2_H {H : Hp} {v : V} {x : Int × Int} (h : (e2 eI eI).R H v x) : eH.R H v x := by
  obtain ⟨a, u, w, h1, h2, h3, h4⟩ := h
  cases h3
  cases h4
  exact ⟨a, [], h1, h2⟩
theorem e2s_H {H : Hp} {v : V} {xs : List (Int × Int)} (h : (eL (e2 eI eI)).R H v xs) : (eL eH).R H v xs := by
  obtain ⟨a, vs, h1, h2, h3⟩ := h
  exact ⟨a, vs, h1, h2, pmap (fun _ _ => e2_H) h3⟩
/-- sorted of a dict's keys -/
def rSortD : List V → Hp → VK → Prop := fun xs H Q => ∃ (a : Addr) (kvs : List (Key × V)) (ks : List Int), xs = [V.ref a] ∧ Rd H a (.dK kvs) ∧ kvs.map (·.1) = ks.map Sum.inl ∧ ks.length < 64 ∧
  ∀ (ys : List Int) (p : Addr), ys.Perm ks → ys.Pairwise (· ≤ ·) → H p = none → Q (.ref p) (upd H p (.lst (ys.map V.int)))
theorem cl_sortedD {X : Cx} (h : X.calm = true) : CallR X (.builtin "sorted") rSortD := call_sortedDI h
/-- rising, no two alike -/
def Up (ys : List Int) : Prop := ys.Pairwise (· < ·)
theorem up_of {ys ks : List Int} (hp : ys.Perm ks) (hs : ys.Pairwise (· ≤ ·)) (hn : ks.Nodup) : Up ys := by
  have hn2 : ys.Nodup := hp.nodup_iff.mpr hn
  clear hp
  induction ys with
  | nil => exact List.Pairwise.nil
  | cons a r ih =>
    obtain ⟨h1, h2⟩ := List.pairwise_cons.mp hs
    obtain ⟨h3, h4⟩ := List.nodup_cons.mp hn2
    refine List.pairwise_cons.mpr ⟨fun b hb => ?_, ih h2 h4⟩
    have h5 := h1 b hb
    have h6 : a ≠ b := fun q => h3 (q ▸ hb)
    omega
theorem up_ext : ∀ {xs ys : List Int}, Up xs → Up ys → (∀ v, v ∈ xs ↔ v ∈ ys) → xs = ys
  | [], [], _, _, _ => rfl
  | [], y :: ys, _, _, h => by
    have := (h y).mpr List.mem_cons_self
    cases this
  | x :: xs, [], _, _, h => by
    have := (h x).mp List.mem_cons_self
    cases this
  | x :: xs, y :: ys, hx, hy, h => by
    obtain ⟨h1, h2⟩ := List.pairwise_cons.mp hx
    obtain ⟨h3, h4⟩ := List.pairwise_cons.mp hy
    have e : x = y := by
      rcases List.mem_cons.mp ((h x).mp List.mem_cons_self) with q | q
      · exact q
      · rcases List.mem_cons.mp ((h y).mpr List.mem_cons_self) with z | z
        · exact z.symm
        · have a1 := h3 x q
          have a2 := h1 y z
          omega
    subst e
    rw [up_ext h2 h4 fun v => ?_]
    constructor
    · intro hv
      rcases List.mem_cons.mp ((h v).mp (List.mem_cons_of_mem _ hv)) with q | q
      · subst q
        have := h1 v hv
        omega
      · exact q
    · intro hv
      rcases List.mem_cons.mp ((h v).mpr (List.mem_cons_of_mem _ hv)) with q | q
      · subst q
        have := h3 v hv
        omega
      · exact q
theorem up_rg (n : Int) : Up (rg n) := by
  unfold rg Up
  rw [List.pairwise_map]
  exact List.pairwise_lt_range.imp fun h => by omega
theorem up_filter {ys : List Int} (p : Int → Bool) (h : Up ys) : Up (ys.filter p) := List.Pairwise.sublist List.filter_sublist h
theorem up_nodup {ys : List Int} (h : Up ys) : ys.Nodup := List.Pairwise.imp (fun h => by omega) h
theorem em_sortD {ks : List Int} (x0 : Ex B H) (h : EvE eD ta σ B H ks) (hz : ks.length < 64) (hn : ks.Nodup) : EvM eI (tCB rSortD (tCons ta tNil)) σ B H (fun ys => Up ys ∧ ∀ v, v ∈ ys ↔ v ∈ ks) :=
  em_cb1 x0 h fun v B2 H2 x2 ⟨a, kvs, h1, h2, h3⟩ Q k => ⟨a, kvs, ks, by rw [h1], .inl (x2 _ _ h2), h3, hz, fun ys p hp hs hq => k p _ ⟨ys, ⟨up_of hp hs hn, fun v => hp.mem_iff⟩, pI' ys⟩ hq⟩
theorem em_sortDS {T : List Int → Prop} (x0 : Ex B H) (h : EvS eD ta σ B H T) (hz : ∀ ks, T ks → ks.length < 64 ∧ ks.Nodup) : EvM eI (tCB rSortD (tCons ta tNil)) σ B H (fun ys => Up ys ∧ ∃ ks, T ks ∧ ∀ v, v ∈ ys ↔ v ∈ ks) := fun H1 e Q k =>
  h H1 e _ fun v ks B2 H2 t hT ⟨a, kvs, h1, h2, h3⟩ => ⟨a, kvs, ks, by rw [h1], .inl (t.bh _ _ h2), h3, (hz ks hT).1, fun ys p hp hs hq =>
    k p _ ys B2 _ (t.goH (Ex.new hq)) (fresh_back t.eh hq) (fresh_back t.bh hq) upd_same ⟨up_of hp hs (hz ks hT).2, ks, hT, fun v => hp.mem_iff⟩ (pI' ys)⟩
/-- tuple(..) of what is known in part -/
theorem es_tupLS {T : List α → Prop} (x0 : Ex B H) (h : EvS (eL E) ta σ B H T) : EvS (eT E) (tCB (rTupS' K) (tCons ta tNil)) σ B H T := fun H1 e Q k =>
  h H1 e _ fun v xs B2 H2 t hT ⟨a, vs, h1, h2, h3⟩ => ⟨a, vs, by rw [h1], .inl ⟨SqL.of (t.bh _ _ h2), fun l hl => k (.ref l) xs (upd B2 l (.tup vs)) _ (t.trans (Stp.new t.bh hl)) hT ⟨l, vs, rfl, upd_same, E.ups (Ex.new (fresh_back t.bh hl)) h3⟩⟩⟩
/-- a module's number -/
theorem pe_gI {X : Cx} {x : Str} {n : Int} {pos : Pos} (hg : Gl X x) (h : ∃ t, X.mg x = some (.int n t)) (hd : (x == ("__debug__" : Str)) = false := by decide) : PE X (.Name x pos) (tC (.int n)) := by
  obtain ⟨t, h⟩ := h
  exact pe_glob hg h ⟨t, rfl⟩ hd
end

/-! ### rules with K told apart (within a comprehension) -/
section
variable {X : Cx} {K : PySem.W.Frag}
theorem k_in (h : X.K = K) : OpR X (compareOp .In) (rIn K false) := h ▸ op_in_seq
theorem k_notin (h : X.K = K) : OpR X (compareOp .NotIn) (rIn K true) := h ▸ op_notIn_seq
theorem k_ixl (h : X.K = K) : IxR X (rIxL K) := h ▸ ix_list
theorem k_ixt (h : X.K = K) : IxR X (rIxT K) := h ▸ ix_tup
theorem k_sll (h : X.K = K) : SlR X (rSlL K) := h ▸ sl_list
theorem k_len (h : X.K = K) : CallR X (.builtin "len") (rLenS K) := h ▸ cl_len
theorem k_list (h : X.K = K) : CallR X (.type "list") (rListS' K) := h ▸ cl_list
theorem k_tuple (h : X.K = K) : CallR X (.type "tuple") (rTupS' K) := h ▸ cl_tuple
theorem k_sum (c : X.calm = true) (h : X.K = K) : CallR X (.builtin "sum") (rSum K) := h ▸ cr_sum c
theorem k_min (c : X.calm = true) (h : X.K = K) : CallR X (.builtin "min") (rMin K) := h ▸ cr_min c
theorem k_max (c : X.calm = true) (h : X.K = K) : CallR X (.builtin "max") (rMax K) := h ▸ cr_max c
theorem k_isi (h : X.K = K) : CallR X (.builtin "isinstance") (rIsi K) := h ▸ call_isi
theorem k_eqD (hu : X.A.units + 64 < cLine) (h : X.K = K) : OpR X (compareOp .Eq) (rEqD K) := h ▸ op_eqD hu
theorem k_neD (hu : X.A.units + 64 < cLine) (h : X.K = K) : OpR X (compareOp .NotEq) (rNeD K) := h ▸ op_neD hu
end

/-! ### what can be come to -/
inductive Rch (es : List (Int × Int)) (s : Int) : Int → Prop
  | refl : Rch es s s
  | step {v w : Int} : Rch es s v → (v, w) ∈ es → Rch es s w
theorem Rch.trans {es : List (Int × Int)} {a b c : Int} (h : Rch es a b) (k : Rch es b c) : Rch es a c := by
  induction k with
  | refl => exact h
  | step _ e ih => exact .step ih e
theorem Rch.head {es : List (Int × Int)} {a b c : Int} (h : (a, b) ∈ es) (k : Rch es b c) : Rch es a c := Rch.trans (.step .refl h) k
theorem Rch.closed {es : List (Int × Int)} {s v : Int} {P : Int → Prop} (h : Rch es s v) (h0 : P s) (hc : ∀ a b, (a, b) ∈ es → P a → P b) : P v := by
  induction h with
  | refl => exact h0
  | step _ e ih => exact hc _ _ e ih
theorem Rch.mono {es fs : List (Int × Int)} {s v : Int} (h : Rch es s v) (k : ∀ e ∈ es, e ∈ fs) : Rch fs s v := by
  induction h with
  | refl => exact .refl
  | step _ e ih => exact .step ih (k _ e)
/-- the roads turned round -/
def turned (es : List (Int × Int)) : List (Int × Int) := es.map fun e => (e.2, e.1)
theorem mem_turned {es : List (Int × Int)} {a b : Int} : (a, b) ∈ turned es ↔ (b, a) ∈ es := by
  unfold turned
  rw [List.mem_map]
  constructor
  · rintro ⟨⟨x, y⟩, h, e⟩
    cases e
    exact h
  · intro h
    exact ⟨(b, a), h, rfl⟩
theorem rch_turned {es : List (Int × Int)} {a b : Int} : Rch (turned es) a b ↔ Rch es b a := by
  constructor
  · intro h
    induction h with
    | refl => exact .refl
    | step _ e ih => exact Rch.head (mem_turned.mp e) ih
  · intro h
    induction h with
    | refl => exact .refl
    | step _ e ih => exact Rch.head (mem_turned.mpr e) ih
def ends (rs : List Road) : List (Int × Int) := rs.map fun r => (r.1, r.2.1)
theorem mem_ends {rs : List Road} {a b : Int} : (a, b) ∈ ends rs ↔ ∃ r ∈ rs, r.1 = a ∧ r.2.1 = b := by
  unfold ends
  rw [List.mem_map]
  constructor
  · rintro ⟨r, h, e⟩
    cases e
    exact ⟨r, h, rfl, rfl⟩
  · rintro ⟨r, h, rfl, rfl⟩
    exact ⟨r, h, rfl⟩
/-- within nought and m -/
def InE (m : Int) (es : List (Int × Int)) : Prop := ∀ e ∈ es, 0 ≤ e.1 ∧ e.1 < m ∧ 0 ≤ e.2 ∧ e.2 < m
theorem Rch.inE {es : List (Int × Int)} {m s v : Int} (h : Rch es s v) (hs : 0 ≤ s ∧ s < m) (he : InE m es) : 0 ≤ v ∧ v < m :=
  h.closed (P := fun v => 0 ≤ v ∧ v < m) hs fun a b q _ => ⟨(he _ q).2.2.1, (he _ q).2.2.2⟩
/-- different numbers below n are at most n -/
theorem nodup_le : ∀ {n : Nat} {ks : List Int}, ks.Nodup → (∀ k ∈ ks, 0 ≤ k ∧ k < (n : Int)) → ks.length ≤ n
  | 0, [], _, _ => Nat.le_refl _
  | 0, k :: _, _, h => by
    have := h k List.mem_cons_self
    omega
  | n + 1, ks, hn, h => by
    have ih := nodup_le (n := n) (hn.erase (n : Int)) fun k hk => by
      have h1 := (hn.mem_erase_iff).mp hk
      have h2 := h k h1.2
      have h3 := h1.1
      omega
    rw [List.length_erase] at ih
    split at ih <;> omega
structure Net (m : Int) (rs : List Road) : Prop where
  lo : 1 ≤ m
  hi : m ≤ 12
  len : rs.length ≤ 60
  ok : ∀ r ∈ rs, OkR m r
theorem Net.inE {m : Int} {rs : List Road} (h : ∀ r ∈ rs, OkR m r) : InE m (ends rs) := by
  rintro ⟨a, b⟩ he
  obtain ⟨r, hr, rfl, rfl⟩ := mem_ends.mp he
  obtain ⟨h1, h2, h3, h4, _⟩ := h r hr
  exact ⟨h1, h2, h3, h4⟩
theorem InE.turned {m : Int} {es : List (Int × Int)} (h : InE m es) : InE m (turned es) := by
  rintro ⟨a, b⟩ he
  obtain ⟨h1, h2, h3, h4⟩ := h _ (mem_turned.mp he)
  exact ⟨h3, h4, h1, h2⟩
end RR
namespace RR
open PySem L2 Evl PyProof.Rows
/-! ### marks: going along the roads again and again -/
def Mk (bs : List Bool) (v : Int) : Prop := bs[v.toNat]? = some true
def Shut (rs : List Road) (bs : List Bool) : Prop := ∀ r ∈ rs, Mk bs r.1 → Mk bs r.2.1
structure Sound (m : Int) (rs : List Road) (root : Int) (bs : List Bool) : Prop where
  len : bs.length = m.toNat
  snd : ∀ v, 0 ≤ v → Mk bs v → Rch (ends rs) root v
  rt : Mk bs root
def cnt (bs : List Bool) : Nat := bs.count true
theorem cnt_le (bs : List Bool) : cnt bs ≤ bs.length := List.count_le_length
theorem cnt_set : ∀ {bs : List Bool} {i : Nat}, bs[i]? = some false → cnt (bs.set i true) = cnt bs + 1
  | [], i, h => by simp at h
  | b :: r, 0, h => by
    simp at h
    subst h
    simp [cnt]
  | b :: r, i + 1, h => by
    have ih := cnt_set (bs := r) (i := i) (by simpa using h)
    unfold cnt at ih ⊢
    rw [List.set_cons_succ, List.count_cons, List.count_cons, ih]
    omega
theorem mk_set {bs : List Bool} {i : Nat} {v : Int} (hi : i < bs.length) : Mk (bs.set i true) v ↔ (v.toNat = i ∨ Mk bs v) := by
  unfold Mk
  rw [List.getElem?_set]
  by_cases h : i = v.toNat
  · subst h
    rw [if_pos rfl, if_pos hi]
    simp
  · rw [if_neg h]
    have h' : ¬ v.toNat = i := fun q => h q.symm
    simp [h']
theorem Sound.set {m : Int} {rs : List Road} {root : Int} {bs : List Bool} {r : Road} (h : Sound m rs root bs) (hr : r ∈ rs) (ho : OkR m r) (h1 : Mk bs r.1) : Sound m rs root (bs.set r.2.1.toNat true) := by
  obtain ⟨k1, k2, k3, k4, _⟩ := ho
  have hi : r.2.1.toNat < bs.length := by rw [h.len]; omega
  refine ⟨by rw [List.length_set]; exact h.len, fun v hv hm => ?_, (mk_set hi).mpr (.inr h.rt)⟩
  rcases (mk_set hi).mp hm with e | hm
  · have e2 : v = r.2.1 := by omega
    rw [e2]
    exact .step (h.snd r.1 k1 h1) (mem_ends.mpr ⟨r, hr, rfl, rfl⟩)
  · exact h.snd v hv hm
theorem Sound.all {m : Int} {rs : List Road} {root : Int} {bs : List Bool} (h : Sound m rs root bs) (hs : Shut rs bs) {v : Int} (hv : 0 ≤ v) : Mk bs v ↔ Rch (ends rs) root v := by
  refine ⟨h.snd v hv, fun r => r.closed (P := fun v => Mk bs v) h.rt fun a b e ha => ?_⟩
  obtain ⟨r, hr, rfl, rfl⟩ := mem_ends.mp e
  exact hs r hr ha
/-- within a turn that began with b0, behind i of the roads -/
def Within (rs : List Road) (b0 : List Bool) (i : Nat) (bs : List Bool) : Prop := (bs = b0 ∧ ∀ j r, j < i → rs[j]? = some r → Mk b0 r.1 → Mk b0 r.2.1) ∨ (cnt b0 < cnt bs ∧ ¬ Shut rs b0)
theorem within_start (rs : List Road) (b0 : List Bool) : Within rs b0 0 b0 := .inl ⟨rfl, fun _ _ h => absurd h (Nat.not_lt_zero _)⟩
theorem within_no {rs : List Road} {b0 bs : List Bool} {i : Nat} {r : Road} (h : Within rs b0 i bs) (hr : rs[i]? = some r) (hn : ¬ Mk bs r.1) : Within rs b0 (i + 1) bs := by
  rcases h with ⟨e, h⟩ | h
  · subst e
    refine .inl ⟨rfl, fun j z hj hz hm => ?_⟩
    by_cases q : j = i
    · subst q
      rw [hr] at hz
      cases hz
      exact absurd hm hn
    · exact h j z (by omega) hz hm
  · exact .inr h
theorem within_yes {rs : List Road} {b0 bs : List Bool} {i : Nat} {r : Road} (h : Within rs b0 i bs) (hr : rs[i]? = some r) (hi : r.2.1.toNat < bs.length) (h1 : Mk bs r.1) : Within rs b0 (i + 1) (bs.set r.2.1.toNat true) := by
  cases hb : bs[r.2.1.toNat] with
  | true =>
    have hb' : bs[r.2.1.toNat]? = some true := by rw [List.getElem?_eq_getElem hi, hb]
    rw [set_same hb']
    rcases h with ⟨e, h⟩ | h
    · subst e
      refine .inl ⟨rfl, fun j z hj hz hm => ?_⟩
      by_cases q : j = i
      · subst q
        rw [hr] at hz
        cases hz
        exact hb'
      · exact h j z (by omega) hz hm
    · exact .inr h
  | false =>
    have hb' : bs[r.2.1.toNat]? = some false := by rw [List.getElem?_eq_getElem hi, hb]
    have hc := cnt_set hb'
    rcases h with ⟨e, h⟩ | ⟨h, hs⟩
    · subst e
      refine .inr ⟨by omega, fun sh => ?_⟩
      have := sh r (List.mem_of_getElem? hr) h1
      unfold Mk at this
      rw [hb'] at this
      cases this
    · exact .inr ⟨by omega, hs⟩
/-- behind t turns -/
def Turned (rs : List Road) (t : Nat) (bs : List Bool) : Prop := Shut rs bs ∨ t + 1 ≤ cnt bs
theorem turned_next {rs : List Road} {t : Nat} {b0 bs : List Bool} (h : Turned rs t b0) (w : Within rs b0 rs.length bs) : Turned rs (t + 1) bs := by
  rcases w with ⟨e, w⟩ | ⟨w, hs⟩
  · subst e
    refine .inl fun r hr hm => ?_
    obtain ⟨j, hj⟩ := List.mem_iff_getElem?.mp hr
    exact w j r (List.getElem?_eq_some_iff.mp hj).1 hj hm
  · rcases h with h | h
    · exact absurd h hs
    · exact .inr (by omega)
theorem turned_end {rs : List Road} {bs : List Bool} {t : Nat} (h : Turned rs t bs) (hl : bs.length = t) : Shut rs bs := by
  rcases h with h | h
  · exact h
  · have := cnt_le bs
    omega
theorem cnt_pos {bs : List Bool} {v : Int} (h : Mk bs v) : 1 ≤ cnt bs := List.count_pos_iff.mpr (List.mem_of_getElem? h)
/-- the first marks -/
theorem marks0 {m root : Int} {rs : List Road} (h0 : 0 ≤ root) (h1 : root < m) : Sound m rs root ((rg m).map fun k => decide (k = root)) := by
  have hg : ∀ v : Int, 0 ≤ v → (Mk ((rg m).map fun k => decide (k = root)) v ↔ v = root ∧ v < m) := fun v hv => by
    unfold Mk
    by_cases hm : v < m
    · rw [List.getElem?_map, rg_get (by omega), Int.toNat_of_nonneg hv]
      simp [hm]
    · rw [List.getElem?_eq_none (by rw [List.length_map, rg_len]; omega)]
      simp [hm]
  refine ⟨by rw [List.length_map, rg_len], fun v hv hm => ?_, (hg root h0).mpr ⟨rfl, h1⟩⟩
  rw [((hg v hv).mp hm).1]
  exact .refl
theorem mapB (bs : List Bool) (i : Nat) (b : Bool) : (bs.set i b).map V.bl = (bs.map V.bl).set i (V.bl b) := by rw [List.map_set]
theorem pB {H : Hp} : ∀ {vs : List V} {bs : List Bool}, Paired (eB.R H) vs bs → vs = bs.map V.bl
  | _, _, .nil => rfl
  | _, _, .cons r t => by
    rw [pB t, show _ = V.bl _ from r]
    rfl
theorem pB' {H : Hp} : ∀ (bs : List Bool), Paired (eB.R H) (bs.map V.bl) bs
  | [] => .nil
  | _ :: r => .cons rfl (pB' r)
/-- (root + a) round m and (root + k) round m -/
theorem round_ne {m r a k : Int} (h0 : 0 ≤ r) (h1 : r < m) (ha : 0 ≤ a) (hak : a < k) (hk : k < m) : 0 ≤ (r + a) % m ∧ (r + a) % m < m ∧ 0 ≤ (r + k) % m ∧ (r + k) % m < m ∧ (r + a) % m ≠ (r + k) % m := by
  rw [emod_add_lt h0 h1 ha (by omega), emod_add_lt h0 h1 (by omega) hk]
  split <;> split <;> omega
end RR
namespace RR
open PySem L2 Evl PyProof.Rows
section
variable {α β γ δ ε : Type} {E : Enc α} {F : Enc β} {G : Enc γ} {n m : Nat}
variable {te ta tb tc tl : TE} {tt : TT} {σ : L2.St} {B H B0 H0 B1 H1 : Hp} {K : PySem.W.Frag} {D : Ends} {tu tw tz : TS} {i : Nat}
theorem k_catA {X : Cx} {K : PySem.W.Frag} (h : X.K = K) : OpR X (binaryOp .Add) (rCatA K) := h ▸ op_catA
theorem em_catS {S T : List α → Prop} (x0 : Ex B H) (ha : EvS (eL E) ta σ B H S) (hb : EvS (eL E) tb σ B H T) (hz : ∀ xs ys, S xs → T ys → xs.length + ys.length ≤ 100000) : EvM E (tOp rCat ta tb) σ B H (fun zs => ∃ xs ys, S xs ∧ T ys ∧ zs = xs ++ ys) := fun H1 e Q k =>
  ha H1 e _ fun v xs B2 H2 t hx hR =>
    hb.up ((Stp.go x0 e).trans t) H2 (Ex.refl _) _ fun w ys B3 H3 t2 hy hR2 => by
      obtain ⟨a, vs, rfl, q2, q3⟩ := hR
      obtain ⟨b, ws, rfl, q5, q6⟩ := hR2
      refine ⟨a, b, vs, ws, rfl, rfl, t2.bh _ _ (t2.eb _ _ q2), t2.bh _ _ q5, sz_of (by rw [pl q3, pl q6]; exact hz xs ys hx hy), fun p hp => ?_⟩
      have s := t.trans t2
      exact k p _ _ B3 _ (s.goH (Ex.new hp)) (fresh_back s.eh hp) (fresh_back s.bh hp) upd_same ⟨xs, ys, hx, hy, rfl⟩ (papp (E.ups t2.eb q3) q6)
theorem cutP_from (xs : List α) {c : Int} (h0 : 0 ≤ c) (h1 : c ≤ (xs.length : Int)) : cutP xs (some c) none = xs.drop c.toNat := by
  unfold cutP HT.sIx
  simp only
  have e : (if c < 0 then (c + (xs.length : Int)).toNat else min c.toNat xs.length) = c.toNat := by
    rw [if_neg (by omega)]
    omega
  first
    | (rw [e]; exact List.take_of_length_le (by rw [List.length_drop]; omega))
    | (simp [h0]; omega)
theorem cutP_to (xs : List α) {c : Int} (h0 : 0 ≤ c) (h1 : c ≤ (xs.length : Int)) : cutP xs none (some c) = xs.take c.toNat := by
  unfold cutP HT.sIx
  simp only
  have e : (if c < 0 then (c + (xs.length : Int)).toNat else min c.toNat xs.length) = c.toNat := by
    rw [if_neg (by omega)]
    omega
  first
    | (rw [e]; simp)
    | simp
theorem cutP_seg (xs : List α) {a b : Int} (ha : 0 ≤ a) (hb : 0 ≤ b) : (cutP xs (some a) (some b)).length ≤ (b - a).toNat := by
  unfold cutP HT.sIx
  simp only
  rw [List.length_take, List.length_drop]
  have e : ∀ c : Int, 0 ≤ c → (if c < 0 then (c + (xs.length : Int)).toNat else min c.toNat xs.length) = min c.toNat xs.length := fun c hc => if_neg (by omega)
  rw [e a ha, e b hb]
  omega
/-- t + u -/
theorem es_catT {S T : List α → Prop} (x0 : Ex B H) (ha : EvS (eT E) ta σ B H S) (hb : EvS (eT E) tb σ B H T) (hz : ∀ xs ys, S xs → T ys → xs.length + ys.length ≤ 100000) : EvS (eT E) (tOp (rCatA K) ta tb) σ B H (fun zs => ∃ xs ys, S xs ∧ T ys ∧ zs = xs ++ ys) := fun H1 e Q k =>
  ha H1 e _ fun v xs B2 H2 t hx hR =>
    hb.up ((Stp.go x0 e).trans t) H2 (Ex.refl _) _ fun w ys B3 H3 t2 hy hR2 => by
      obtain ⟨a, vs, rfl, q2, q3⟩ := hR
      obtain ⟨b, ws, rfl, q5, q6⟩ := hR2
      have q2' := t2.eb _ _ q2
      have q3' := E.ups t2.eb q3
      have s := t.trans t2
      refine ⟨a, b, vs, ws, rfl, rfl, SqT.of (t2.bh _ _ q2'), SqT.of (t2.bh _ _ q5), sz_of (by rw [pl q3, pl q6]; exact hz xs ys hx hy), fun e1 => ?_, fun e1 e2 => ?_, fun e1 e2 p hp => ?_⟩
      · subst e1
        cases q3'
        exact k _ ys B3 H3 s ⟨[], ys, hx, hy, rfl⟩ ⟨b, ws, rfl, q5, q6⟩
      · subst e2
        cases q6
        exact k _ xs B3 H3 s ⟨xs, [], hx, hy, (List.append_nil xs).symm⟩ ⟨a, vs, rfl, q2', q3'⟩
      · exact k _ _ (upd B3 p (.tup (vs ++ ws))) _ (s.trans (Stp.new t2.bh hp)) ⟨xs, ys, hx, hy, rfl⟩ ⟨p, _, rfl, upd_same, E.ups (Ex.new (fresh_back t2.bh hp)) (papp q3' q6)⟩
/-- if c: x = e -/
theorem c_ifSetI {b : Bool} {T : Int → Prop} (ht : EvT tt σ H b) (x0 : Ex B H) (h1 : b = true → EvS eI te σ B H T) (h2 : b = false → ∃ n, σ[i]? = some (some (.int n)) ∧ T n) (k : ∀ n B1 H1, Stp B H B1 H1 → T n → D.nx (σ.set i (some (.int n))) H1) :
    tIfS tt (tAsg te (gName i)) tNext D σ H :=
  s_when ht (fun hb H1 e => (h1 hb).up (Stp.go x0 e) H1 (Ex.refl _) _ fun v n B1 H2 s hT hR => by
    cases hR
    exact k n B1 H2 ((Stp.go x0 e).trans s) hT) (fun hb H1 e => by
    obtain ⟨n, hn, hT⟩ := h2 hb
    have q := k n B H1 (Stp.go x0 e) hT
    rw [set_same hn] at q
    exact q)
theorem q_ifSetE {b : Bool} {T : α → Prop} (ht : EvT tt σ H b) (x0 : Ex B H) (h1 : b = true → EvS E te σ B H T) (h2 : b = false → ∃ v y, σ[i]? = some (some v) ∧ T y ∧ E.R B v y) (k : ∀ v y B1 H1, Stp B H B1 H1 → T y → E.R B1 v y → tz D (σ.set i (some v)) H1) :
    tSeq (tIfS tt (tAsg te (gName i)) tNext) tz D σ H :=
  q_when ht (fun hb H1 e => (h1 hb).up (Stp.go x0 e) H1 (Ex.refl _) _ fun v n B1 H2 s hT hR => k v n B1 H2 ((Stp.go x0 e).trans s) hT hR) (fun hb H1 e => by
    obtain ⟨v, y, hn, hT, hR⟩ := h2 hb
    have q := k v y B H1 (Stp.go x0 e) hT hR
    rw [set_same hn] at q
    exact q)
theorem es_tup1S {S : α → Prop} (x0 : Ex B H) (ha : EvS E ta σ B H S) : EvS (eT E) (tTup (tCons ta tNil)) σ B H (fun xs => ∃ x, S x ∧ xs = [x]) := fun H1 e Q k =>
  ea_c (S := S) x0 mono_aN ha (ea_n x0) H1 e _ fun vs B2 H2 t hA => by
    obtain ⟨v, x, r, rfl, hS, hx, rfl⟩ := hA
    exact ⟨by show 1 ≤ sizeLine; decide, fun p hp => k (.ref p) [x] (upd B2 p (.tup [v])) _ (t.trans (Stp.new t.bh hp)) ⟨x, hS, rfl⟩ ⟨p, [v], rfl, upd_same, .cons (E.up (Ex.new (fresh_back t.bh hp)) hx) .nil⟩⟩
theorem em_lst2S {S T : α → Prop} (x0 : Ex B H) (ha : EvS E ta σ B H S) (hb : EvS E tb σ B H T) : EvM E (tLst (tCons ta (tCons tb tNil))) σ B H (fun xs => ∃ x y, S x ∧ T y ∧ xs = [x, y]) := fun H1 e Q k =>
  ea_c (S := S) x0 (mono_aC mono_aN) ha (ea_c (S := T) x0 mono_aN hb (ea_n x0)) H1 e _ fun vs B2 H2 t hA => by
    obtain ⟨v, x, r, rfl, hS, hx, w, y, r', rfl, hT, hy, rfl⟩ := hA
    exact ⟨by show 2 ≤ sizeLine; decide, fun p hp => k p [v, w] [x, y] B2 _ (t.goH (Ex.new hp)) (fresh_back t.eh hp) (fresh_back t.bh hp) upd_same ⟨x, y, hS, hT, rfl⟩ (.cons hx (.cons hy .nil))⟩
theorem es_ixLMS {S : List α → Prop} {j : Int} (x0 : Ex B H) (ha : EvS (eL E) ta σ B H S) (hb : EvE eI tb σ B H j) (h0 : 0 ≤ j) (h1 : ∀ xs, S xs → j < (xs.length : Int)) : EvS E (tOp (rIxL K) ta tb) σ B H (fun x => ∃ xs, S xs ∧ x ∈ xs) := fun H1 e Q k =>
  ha H1 e _ fun v xs B2 H2 t hS hR =>
    hb.up ((Stp.go x0 e).trans t) H2 (Ex.refl _) _ fun w j' B3 H3 t2 hj hw => by
      cases hj
      obtain ⟨a, vs, h1', h2, h3⟩ := (eL E).up t2.eb hR
      have hj : j.toNat < xs.length := by have := h1 xs hS; omega
      obtain ⟨u, h4, h5⟩ := pget h3 (List.getElem?_eq_getElem hj)
      exact ⟨a, vs, j, u, h1', hw, SqL.of (t2.bh _ _ h2), atI_of h0 h4, k u _ B3 H3 (t.trans t2) ⟨xs, hS, List.getElem_mem hj⟩ h5⟩
/-- a list of two unlike things -/
def eL2 (E : Enc α) (F : Enc β) : Enc (α × β) := ⟨fun H v x => ∃ a u w, v = .ref a ∧ H a = some (.lst [u, w]) ∧ E.R H u x.1 ∧ F.R H w x.2, fun e ⟨a, u, w, h1, h2, h3, h4⟩ => ⟨a, u, w, h1, e _ _ h2, E.up e h3, F.up e h4⟩⟩
def deL2 (D : De E n) (D' : De F m) : De (eL2 E F) (n + m + 1) := ⟨fun x => .list [D.d x.1, D'.d x.2], fun ⟨a, u, w, h1, h2, h3, h4⟩ => by
  subst h1
  exact .lst (SqL.of h2) (.cons (D.ok h3) (.cons (D'.ok h4) .nil)), fun x => by
    show (PyData.canLay0 (D.d x.1) && (PyData.canLay0 (D'.d x.2) && true)) = true
    rw [D.lay, D'.lay]
    rfl, fun x => by
    show max (PyData.depth (D.d x.1)) (max (PyData.depth (D'.d x.2)) 0) + 1 ≤ n + m + 1
    have h1 := D.dep x.1
    have h2 := D'.dep x.2
    omega⟩
theorem es_lst2 {x : α} {y : β} (x0 : Ex B H) (ha : EvE E ta σ B H x) (hb : EvE F tb σ B H y) : EvE (eL2 E F) (tLst (tCons ta (tCons tb tNil))) σ B H (x, y) := fun H1 e Q k =>
  ea_c x0 (mono_aC mono_aN) ha (ea_c x0 mono_aN hb (ea_n x0)) H1 e _ fun vs B2 H2 t hA => by
    obtain ⟨v, x', r, rfl, hS, hx, w, y', r', rfl, hT, hy, rfl⟩ := hA
    cases hS
    cases hT
    exact ⟨by show 2 ≤ sizeLine; decide, fun p hp => k (.ref p) (x, y) (upd B2 p (.lst [v, w])) _ (t.trans (Stp.new t.bh hp)) rfl ⟨p, v, w, rfl, upd_same, E.up (Ex.new (fresh_back t.bh hp)) hx, F.up (Ex.new (fresh_back t.bh hp)) hy⟩⟩
theorem es_l20 {t : α × β} (x0 : Ex B H) (ha : EvE (eL2 E F) ta σ B H t) : EvE E (tOp (rIxL K) ta (tC (.int 0))) σ B H t.1 :=
  es_op x0 ha (es_int x0) fun v w B2 H2 x2 ⟨a, u, w', h1, h2, h3, h4⟩ hw => ⟨u, h3, fun Q q => ⟨a, _, 0, u, h1, hw, SqL.of (x2 _ _ h2), atI_nat (j := 0) rfl, q⟩⟩
theorem es_l21 {t : α × β} (x0 : Ex B H) (ha : EvE (eL2 E F) ta σ B H t) : EvE F (tOp (rIxL K) ta (tC (.int 1))) σ B H t.2 :=
  es_op x0 ha (es_int x0) fun v w B2 H2 x2 ⟨a, u, w', h1, h2, h3, h4⟩ hw => ⟨w', h4, fun Q q => ⟨a, _, 1, w', h1, hw, SqL.of (x2 _ _ h2), atI_nat (j := 1) rfl, q⟩⟩
end
end RR
namespace RR
open PySem L2 Evl PyProof.Rows
def topS (i : Nat) : Stmt := PySem.Challenge.pw_rootroads_k06_left_over.main.body.getD i (.Pass ⟨0, 0, 0, 0⟩)
abbrev s_into : Stmt := topS 1
abbrev N_into : List Str := ["roads", "group", "found", "number", "road"]
theorem sc_into : FnScope N_into ["roads", "group"] (defScope s_into) := ⟨rfl, rfl, rfl, by decide +kernel, rfl, by decide +kernel, by decide +kernel⟩
abbrev s_left_over : Stmt := topS 3
abbrev N_left_over : List Str := ["roads", "prices", "left", "pair", "number", "road"]
theorem sc_left_over : FnScope N_left_over ["roads", "prices"] (defScope s_left_over) := ⟨rfl, rfl, rfl, by decide +kernel, rfl, by decide +kernel, by decide +kernel⟩
abbrev s__law_cell_at : Stmt := topS 5
abbrev N__law_cell_at : List Str := ["_law_script", "_law_k"]
theorem sc__law_cell_at : FnScope N__law_cell_at ["_law_script", "_law_k"] (defScope s__law_cell_at) := ⟨rfl, rfl, rfl, by decide +kernel, rfl, by decide +kernel, by decide +kernel⟩
abbrev s__law_mixed : Stmt := topS 6
abbrev N__law_mixed : List Str := ["_law_cell", "_law_k"]
theorem sc__law_mixed : FnScope N__law_mixed ["_law_cell", "_law_k"] (defScope s__law_mixed) := ⟨rfl, rfl, rfl, by decide +kernel, rfl, by decide +kernel, by decide +kernel⟩
abbrev s__law_cost : Stmt := topS 7
abbrev N__law_cost : List Str := ["_law_cell"]
theorem sc__law_cost : FnScope N__law_cost ["_law_cell"] (defScope s__law_cost) := ⟨rfl, rfl, rfl, by decide +kernel, rfl, by decide +kernel, by decide +kernel⟩
abbrev s__law_road : Stmt := topS 8
abbrev N__law_road : List Str := ["_law_cell", "_law_many", "_law_start", "_law_end"]
theorem sc__law_road : FnScope N__law_road ["_law_cell", "_law_many"] (defScope s__law_road) := ⟨rfl, rfl, rfl, by decide +kernel, rfl, by decide +kernel, by decide +kernel⟩
abbrev s__law_pair : Stmt := topS 9
abbrev N__law_pair : List Str := ["_law_cell", "_law_many", "_law_group", "_law_rest", "_law_place", "_law_odd", "_law_price"]
theorem sc__law_pair : FnScope N__law_pair ["_law_cell", "_law_many"] (defScope s__law_pair) := ⟨rfl, rfl, rfl, by decide +kernel, rfl, by decide +kernel, by decide +kernel⟩
abbrev s_law : Stmt := topS 10
abbrev N_law : List Str := ["_law_script", "_law_many", "_law_roads", "_law_prices", "_law_handed", "_law_found", "_law_number", "_law_due", "_law_pair_here", "_law_cell"]
theorem sc_law : FnScope N_law ["_law_script"] (defScope s_law) := ⟨rfl, rfl, rfl, by decide +kernel, rfl, by decide +kernel, by decide +kernel⟩
structure Txt (K : PySem.W.Frag) (mg : Str → Option Value) : Prop where
  b_bool : mg "bool" = none
  b_enumerate : mg "enumerate" = none
  b_int : mg "int" = none
  b_isinstance : mg "isinstance" = none
  b_len : mg "len" = none
  b_list : mg "list" = none
  b_range : mg "range" = none
section
variable {P : Program} {w : World} {K : PySem.W.Frag} {mg : Str → Option Value} {base : Heap}

abbrev sp_cell (K : PySem.W.Frag) : Sp := Spec (ar2 (eScr K) eI) (fun i => 0 ≤ i.2) eI (fun i y => y = cellM i.1 i.2)
theorem d__law_cell_at (F0 : FunAt K mg "_law_cell_at" s__law_cell_at) (T : Txt K mg)  : DefOk P w K mg base 1 "_law_cell_at" ["_law_script", "_law_k"] (sp_cell K) := by
  refine mk_def (k := 0) F0 sc__law_cell_at (fun _ _ _ _ _ _ us hl => match us, hl with | [_, _], _ => rfl) (fun _ => (lenC (lenC lenN))) ?_
  intro f cdv A0 outer s E i B H vs Q hr x0 hA hp q
  obtain ⟨v0, _, _, rfl, rfl, h0, v1, _, _, rfl, rfl, h1, rfl⟩ := hA
  obtain ⟨y0, y1⟩ := i
  (try dsimp only at h0); (try dsimp only at h1); (try dsimp only at hp); (try dsimp only at q)
  refine ⟨_, (pss_cons (ps_if (pt_cmpR op_lt (pv 1) (pe_callB (k_len (K := K) rfl) (by rfl) T.b_len (by decide +kernel) (pa_cons (pv 0) pa_nil)) (nomark _)) (pss_one (ps_ret (pe_ix (k_ixl (K := K) rfl) (pv 0) (pv 1) (fun _ _ => rfl)))) pss_nil)
      (pss_one (ps_ret pe_int))), ?_⟩
  cases h1
  refine q_when (et_sT (es_opB x0 (es_varI (i := 1) x0 rfl) (es_lenS x0 (es_var x0 rfl h0)))) (fun hb H1 e => ?_) (fun hb H1 e => ?_)
  · have hlt : y1 < (y0.length : Int) := of_decide_eq_true hb
    have hn : y1.toNat < y0.length := by omega
    have xz := x0.trans e
    refine c_ret (Stp.go x0 e) (es_ixS xz (es_var xz rfl h0) (es_varI (i := 1) xz rfl) hp (List.getElem?_eq_getElem hn)) fun w y B2 H2 s hy hR => q w y B2 H2 s ?_ hR
    rw [hy]
    unfold cellM
    rw [if_pos hlt, List.getD_eq_getElem?_getD, List.getElem?_eq_getElem hn]
    rfl
  · have hlt : ¬ y1 < (y0.length : Int) := of_decide_eq_false hb
    refine c_ret (Stp.go x0 e) (es_int (x0.trans e)) fun w y B2 H2 s hy hR => q w y B2 H2 s ?_ hR
    rw [hy]
    unfold cellM
    rw [if_neg hlt]

def mixedM (c k : Int) : Int := (c * 16807 + k * k * 7919 + k * 48271 + 11) % 2147483647
theorem mixedM_b (c k : Int) : 0 ≤ mixedM c k ∧ mixedM c k < 2147483647 := ⟨Int.emod_nonneg _ (by decide), Int.emod_lt_of_pos _ (by decide)⟩
theorem mixedM_bd (c k : Int) : Bd (mixedM c k) := Bd.small (by have := mixedM_b c k; omega)
abbrev sp_mixed : Sp := Spec (ar2 eI eI) (fun i => -1000 ≤ i.2 ∧ i.2 ≤ 1000) eI (fun i y => y = mixedM i.1 i.2)
theorem d__law_mixed (F0 : FunAt K mg "_law_mixed" s__law_mixed) (T : Txt K mg)  : DefOk P w K mg base 1 "_law_mixed" ["_law_cell", "_law_k"] sp_mixed := by
  refine mk_def (k := 0) F0 sc__law_mixed (fun _ _ _ _ _ _ us hl => match us, hl with | [_, _], _ => rfl) (fun _ => (lenC (lenC lenN))) ?_
  intro f cdv A0 outer s E i B H vs Q hr x0 hA hp q
  obtain ⟨v0, _, _, rfl, rfl, h0, v1, _, _, rfl, rfl, h1, rfl⟩ := hA
  obtain ⟨y0, y1⟩ := i
  (try dsimp only at h0); (try dsimp only at h1); (try dsimp only at hp); (try dsimp only at q)
  refine ⟨_, (pss_one (ps_ret (pe_op op_mod (pe_op op_add (pe_op op_add (pe_op op_add (pe_op op_mul (pv 0) pe_int) (pe_op op_mul (pe_op op_mul (pv 1) (pv 1)) pe_int)) (pe_op op_mul (pv 1) pe_int)) pe_int) pe_int))), ?_⟩
  cases h0
  cases h1
  exact c_ret (Stp.refl x0) (es_opC x0 (es_opI x0 (es_opI x0 (es_opI x0 (es_opC x0 (es_varI x0 rfl) (es_int x0) (.inr ⟨by decide, by decide⟩)) (es_opC x0 (es_opC x0 (es_varI x0 rfl) (es_varI x0 rfl) (.inl ⟨by omega, by omega⟩)) (es_int x0) (.inr ⟨by decide, by decide⟩))) (es_opC x0 (es_varI x0 rfl) (es_int x0) (.inr ⟨by decide, by decide⟩))) (es_int x0)) (es_int x0) (by first | (show (0 : Int) < _; omega) | (show (0 : Int) < _; decide +kernel))) q

abbrev sp_cost : Sp := Spec (ar1 eI) (fun i => Bd i) eI (fun _ y => 0 ≤ y ∧ y < 10000000000000000000000000000000000000000)
theorem d__law_cost (F0 : FunAt K mg "_law_cost" s__law_cost) (T : Txt K mg)  : DefOk P w K mg base 1 "_law_cost" ["_law_cell"] sp_cost := by
  refine mk_def (k := 0) F0 sc__law_cost (fun _ _ _ _ _ _ us hl => match us, hl with | [_], _ => rfl) (fun _ => (lenC lenN)) ?_
  intro f cdv A0 outer s E i B H vs Q hr x0 hA hp q
  obtain ⟨v0, y0, _, rfl, rfl, h0, rfl⟩ := hA
  refine ⟨_, (pss_cons (ps_if (pt_cmpR op_eq (pe_op op_mod (pv 0) pe_int) pe_int (nomark _)) (pss_one (ps_ret (pe_op op_sub (pe_op op_sub (pe_op op_pow pe_int pe_int) pe_int) (pe_op op_mod (pe_op op_fdiv (pv 0) pe_int) pe_int)))) pss_nil)
      (pss_one (ps_ret (pe_ix (k_ixl (K := K) rfl) (pe_lst (pa_cons (pe_op op_mod (pe_op op_fdiv (pv 0) pe_int) pe_int) (pa_cons (pe_op op_mod (pe_op op_fdiv (pv 0) pe_int) pe_int) (pa_cons (pe_op op_mod (pe_op op_mul (pe_op op_fdiv (pv 0) pe_int) pe_int) pe_int) (pa_cons (pe_op op_mod (pe_op op_mulX (pe_op op_fdiv (pv 0) pe_int) (pe_op op_pow pe_int pe_int)) (pe_op op_pow pe_int pe_int)) pa_nil))))) (pe_op op_mod (pv 0) pe_int) (fun _ _ => rfl))))), ?_⟩
  cases h0
  refine q_when (et_sT (es_eqI x0 (es_opC x0 (es_varI x0 rfl) (es_int x0) (by first | (show (0 : Int) < _; omega) | (show (0 : Int) < _; decide +kernel))) (es_int x0))) (fun hb H1 e => ?_) (fun hb H1 e => ?_)
  · refine c_ret (Stp.go x0 e) (es_opI (x0.trans e) (es_opI (x0.trans e) (es_opC (x0.trans e) (es_int (x0.trans e)) (es_int (x0.trans e)) (⟨by decide, by decide, by decide⟩)) (es_int (x0.trans e))) (es_opC (x0.trans e) (es_opC (x0.trans e) (es_varI (x0.trans e) rfl) (es_int (x0.trans e)) (⟨by omega, by omega⟩)) (es_int (x0.trans e)) (by first | (show (0 : Int) < _; omega) | (show (0 : Int) < _; decide +kernel)))) fun w y B2 H2 s hy hR => q w y B2 H2 s ?_ hR
    rw [hy]
    have h3 : (10 : Int) ^ (40 : Int).toNat = 10000000000000000000000000000000000000000 := by decide +kernel
    rw [h3]
    omega
  · refine c_ret (Stp.go x0 e) (es_ixLM (x0.trans e) (em_lst (ea_cons' (x0.trans e) (es_opC (x0.trans e) (es_opC (x0.trans e) (es_varI (x0.trans e) rfl) (es_int (x0.trans e)) (⟨by omega, by omega⟩)) (es_int (x0.trans e)) (by first | (show (0 : Int) < _; omega) | (show (0 : Int) < _; decide +kernel))) (ea_cons' (x0.trans e) (es_opC (x0.trans e) (es_opC (x0.trans e) (es_varI (x0.trans e) rfl) (es_int (x0.trans e)) (⟨by omega, by omega⟩)) (es_int (x0.trans e)) (by first | (show (0 : Int) < _; omega) | (show (0 : Int) < _; decide +kernel))) (ea_cons' (x0.trans e) (es_opC (x0.trans e) (es_opC (x0.trans e) (es_opC (x0.trans e) (es_varI (x0.trans e) rfl) (es_int (x0.trans e)) (⟨by omega, by omega⟩)) (es_int (x0.trans e)) (.inr ⟨by decide, by decide⟩)) (es_int (x0.trans e)) (by first | (show (0 : Int) < _; omega) | (show (0 : Int) < _; decide +kernel))) (ea_cons' (x0.trans e) (es_opC (x0.trans e) (es_opC (x0.trans e) (es_opC (x0.trans e) (es_varI (x0.trans e) rfl) (es_int (x0.trans e)) (⟨by omega, by omega⟩)) (es_opC (x0.trans e) (es_int (x0.trans e)) (es_int (x0.trans e)) (⟨by decide, by decide, by decide⟩)) (Bd.mul (Bd.div hp (by omega)) (by decide +kernel))) (es_opC (x0.trans e) (es_int (x0.trans e)) (es_int (x0.trans e)) (⟨by decide, by decide, by decide⟩)) (by first | (show (0 : Int) < _; omega) | (show (0 : Int) < _; decide +kernel))) (ea_nil' (x0.trans e)))))) (by show 4 ≤ 100000; decide)).s (es_opC (x0.trans e) (es_varI (x0.trans e) rfl) (es_int (x0.trans e)) (by first | (show (0 : Int) < _; omega) | (show (0 : Int) < _; decide +kernel))) (Int.emod_nonneg _ (by decide)) (by show _ < (4 : Int); exact Int.emod_lt_of_pos _ (by decide))) fun w y B2 H2 s hy hR => q w y B2 H2 s ?_ hR
    simp only [List.mem_cons, List.not_mem_nil, or_false] at hy
    rcases hy with hy | hy | hy | hy
    · rw [hy]
      omega
    · rw [hy]
      omega
    · rw [hy]
      have h1 := Int.emod_nonneg (y0 / 9 * 7919) (show (1000003 : Int) ≠ 0 by decide)
      have h2 := Int.emod_lt_of_pos (y0 / 9 * 7919) (show (0 : Int) < 1000003 by decide)
      omega
    · rw [hy]
      have h1 := Int.emod_nonneg (y0 / 9 * 48271 ^ (9 : Int).toNat) (show (10 ^ (40 : Int).toNat : Int) ≠ 0 by decide +kernel)
      have h2 := Int.emod_lt_of_pos (y0 / 9 * 48271 ^ (9 : Int).toNat) (show (0 : Int) < 10 ^ (40 : Int).toNat by decide +kernel)
      have h3 : (10 ^ (40 : Int).toNat : Int) ≤ 10000000000000000000000000000000000000000 := by decide +kernel
      exact ⟨h1, Int.lt_of_lt_of_le h2 h3⟩

theorem okr_ends {m s d : Int} (hm : 2 ≤ m) (h0 : 0 ≤ s) (h1 : s < m) (h2 : 0 ≤ d) (h3 : d < m - 1) : 0 ≤ (s + 1 + d) % m ∧ (s + 1 + d) % m < m ∧ s ≠ (s + 1 + d) % m := by
  have e : s + 1 + d = s + (1 + d) := by omega
  rw [e, emod_add_lt h0 h1 (by omega) (by omega)]
  split <;> omega
abbrev sp_road : Sp := Spec (ar2 eI eI) (fun i => Bd i.1 ∧ 2 ≤ i.2 ∧ i.2 ≤ 12) eR (fun i r => OkR i.2 r)
theorem d__law_road (F0 : FunAt K mg "_law_road" s__law_road) (T : Txt K mg) (G__law_cost : DefOk P w K mg base 1 "_law_cost" ["_law_cell"] sp_cost) : DefOk P w K mg base 2 "_law_road" ["_law_cell", "_law_many"] sp_road := by
  refine mk_def (k := 1) F0 sc__law_road (fun _ _ _ _ _ _ us hl => match us, hl with | [_, _], _ => rfl) (fun _ => (lenC (lenC lenN))) ?_
  intro f cdv A0 outer s E i B H vs Q hr x0 hA hp q
  obtain ⟨v0, _, _, rfl, rfl, h0, v1, _, _, rfl, rfl, h1, rfl⟩ := hA
  obtain ⟨y0, y1⟩ := i
  (try dsimp only at h0); (try dsimp only at h1); (try dsimp only at hp); (try dsimp only at q)
  refine ⟨_, (pss_cons (ps_set (i := 2) sc__law_road.nd rfl (by first | exact Or.inl rfl | exact Or.inr rfl) (pe_op op_mod (pv 0) (pv 1)))
      (pss_cons (ps_set (i := 3) sc__law_road.nd rfl (by first | exact Or.inl rfl | exact Or.inr rfl) (pe_op op_mod (pe_op op_add (pe_op op_add (pv 2) pe_int) (pe_op op_mod (pe_op op_fdiv (pv 0) (pv 1)) (pe_op op_sub (pv 1) pe_int))) (pv 1)))
      (pss_one (ps_ret (pe_tup (pa_cons (pv 2) (pa_cons (pv 3) (pa_cons (pe_callD G__law_cost (hr.mono (by decide)) (by rfl) (pa_cons (pe_op op_fdiv (pe_op op_fdiv (pv 0) (pv 1)) (pv 1)) pa_nil)) pa_nil)))))))), ?_⟩
  cases h0
  cases h1
  obtain ⟨hb, hm, hm2⟩ := hp
  have g1 := Int.emod_nonneg y0 (show y1 ≠ 0 by omega)
  have g2 := Int.emod_lt_of_pos y0 (show 0 < y1 by omega)
  have g3 := Int.emod_nonneg (y0 / y1) (show y1 - 1 ≠ 0 by omega)
  have g4 := Int.emod_lt_of_pos (y0 / y1) (show 0 < y1 - 1 by omega)
  have g5 := okr_ends hm g1 g2 g3 g4
  refine q_setI (i := 2) (es_opC x0 (es_varI x0 rfl) (es_varI x0 rfl) (by first | (show (0 : Int) < _; omega) | (show (0 : Int) < _; decide +kernel))) fun H1 e1 => ?_
  refine q_setI (i := 3) (es_opC (x0.trans e1) (es_opI (x0.trans e1) (es_opI (x0.trans e1) (es_varI (x0.trans e1) rfl) (es_int (x0.trans e1))) (es_opC (x0.trans e1) (es_opC (x0.trans e1) (es_varI (x0.trans e1) rfl) (es_varI (x0.trans e1) rfl) (⟨by omega, by omega⟩)) (es_opI (x0.trans e1) (es_varI (x0.trans e1) rfl) (es_int (x0.trans e1))) (by first | (show (0 : Int) < _; omega) | (show (0 : Int) < _; decide +kernel)))) (es_varI (x0.trans e1) rfl) (by first | (show (0 : Int) < _; omega) | (show (0 : Int) < _; decide +kernel))) fun H2 e2 => ?_
  refine c_ret ((Stp.go x0 e1).goH e2) (es_tup3 ((x0.trans e1).trans e2) (es_varI (i := 2) ((x0.trans e1).trans e2) rfl) (es_varI (i := 3) ((x0.trans e1).trans e2) rfl) (es_call (y0 / y1 / y1) ((x0.trans e1).trans e2) (ea_c ((x0.trans e1).trans e2) mono_aN (es_opC ((x0.trans e1).trans e2) (es_opC ((x0.trans e1).trans e2) (es_varI ((x0.trans e1).trans e2) rfl) (es_varI ((x0.trans e1).trans e2) rfl) (⟨by omega, by omega⟩)) (es_varI ((x0.trans e1).trans e2) rfl) (⟨by omega, by omega⟩)) (ea_n ((x0.trans e1).trans e2))) (Bd.div (Bd.div hb (by omega)) (by omega)))) fun w y B2 H3 s hy hR => q w y B2 H3 s ?_ hR
  obtain ⟨ha, hb2, hc⟩ := hy
  exact ⟨by rw [ha]; exact g1, by rw [ha]; exact g2, by rw [hb2]; exact g5.1, by rw [hb2]; exact g5.2.1, by rw [ha, hb2]; exact g5.2.2, hc.1, hc.2⟩

def comesIn (r : Road) (g : List Int) : Bool := decide (r.2.1 ∈ g) && !decide (r.1 ∈ g)
def intoM (rs : List Road) (g : List Int) : List Int := sel (fun r => comesIn r g) rs rs.length
abbrev sp_into : Sp := SpecM (ar2 (eL eR) (eT eI)) (fun i => i.1.length ≤ 100) eI (fun i y => y = intoM i.1 i.2)
theorem d_into (F0 : FunAt K mg "into" s_into) (T : Txt K mg)  : DefOk P w K mg base 1 "into" ["roads", "group"] sp_into := by
  refine mk_defM (k := 0) F0 sc_into (fun _ _ _ _ _ _ us hl => match us, hl with | [_, _], _ => rfl) (fun _ => (lenC (lenC lenN))) ?_
  intro f cdv A0 outer s E i B H vs Q hr x0 hA hp q
  obtain ⟨v0, _, _, rfl, rfl, h0, v1, _, _, rfl, rfl, h1, rfl⟩ := hA
  obtain ⟨y0, y1⟩ := i
  (try dsimp only at h0); (try dsimp only at h1); (try dsimp only at hp); (try dsimp only at q)
  refine ⟨_, (pss_cons (ps_set (i := 2) sc_into.nd rfl (by first | exact Or.inl rfl | exact Or.inr rfl) (pe_lst pa_nil))
      (pss_cons (ps_for PassesOwn.never rfl (pi_enum (by rfl) T.b_enumerate (pa_cons (pv 0) pa_nil)) (pg_tup rfl (pgs_cons (pg_name (i := 3) sc_into.nd rfl (by first | exact Or.inl rfl | exact Or.inr rfl)) (pgs_cons (pg_name (i := 4) sc_into.nd rfl (by first | exact Or.inl rfl | exact Or.inr rfl)) pgs_nil))) (pss_one (ps_if (pw_and (pt_cmpR (k_in (K := K) rfl) (pe_ix (k_ixt (K := K) rfl) (pv 4) pe_int (fun _ _ => rfl)) (pv 1) (by rfl)) (pw_and1 (pt_cmpR (k_notin (K := K) rfl) (pe_ix (k_ixt (K := K) rfl) (pv 4) pe_int (fun _ _ => rfl)) (pv 1) (by rfl)))).pt (pss_one (ps_expr (pe_bm PySem.F.plainAttrs_list PySem.F.slot_list_append PySem.F.type_list_append mt_append (pv 2) (pa_cons (pv 3) pa_nil)))) pss_nil)))
      (pss_one (ps_ret (pv 2))))), ?_⟩
  have hz : y0.length ≤ 100 := hp
  refine q_setM (em_nil (E := eI) x0) fun l vs xs B1 H1 s1 nl bl hl hS hR => ?_
  cases hS
  cases hR
  have c1 : Cell H B1 H1 l (.lst []) := ⟨nl, bl, hl⟩
  refine q_forEn (E := eR) s1.bh ⟨v0, ev_var rfl, Enc.up _ s1.eb h0⟩ (fun i σ' H' => ∃ a b B', σ' = [some v0, some v1, some (.ref l), a, b] ∧ Stp B H B' H' ∧ Ex B1 B' ∧ Cell H B' H' l (.lst ((sel (fun r => comesIn r y1) y0 i).map V.int)))
    (fun H2 e => ⟨none, none, B1, rfl, s1.goH e, Ex.refl _, c1.go e⟩) (fun i σ' H' w => ?_) (fun i r v σ' H' H2 hi hr w e2 => ?_) (fun σ' H' w => ?_)
  · obtain ⟨a, b, B', _, s, eb, _⟩ := w
    exact eb.trans s.bh
  · obtain ⟨a, b, B', rfl, s, eb1, c⟩ := w
    have hi60 : i < 100 := by
      have q1 := (List.getElem?_eq_some_iff.mp hi).1
      omega
    have eb : Ex B B' := s.eb
    have s2 := s.goH e2
    have xz : Ex B' H2 := s2.bh
    have rz : eR.R B' v r := Enc.up _ eb1 hr
    refine s_when (et_and (et_sT (es_inT xz (es_31 xz (es_var xz rfl rz)) (es_var xz rfl (Enc.up _ eb h1)))) fun _ => (et_sT (es_ninT xz (es_30 xz (es_var xz rfl rz)) (es_var xz rfl (Enc.up _ eb h1))))) (fun hb H3 e3 => ?_) (fun hb H3 e3 => ?_)
    · have hc : comesIn r y1 = true := hb
      refine c_app (i := 2) ((c.go e2).go e3) (s2.goH e3) rfl ?_ (es_varI (i := 3) (xz.trans e3) rfl) fun w y B3 H4 s4 eb4 c4 _ hy hw => ?_
      · rw [List.length_map]
        have := sel_len (fun r => comesIn r y1) y0 i
        omega
      · cases hy
        cases hw
        refine ⟨_, _, B3, rfl, s4, eb1.trans eb4, ?_⟩
        rw [sel_yes hi hc, map_snoc]
        exact c4
    · have hc : comesIn r y1 = false := hb
      refine ⟨_, _, B', rfl, s2.goH e3, eb1, ?_⟩
      rw [sel_no hi hc]
      exact (c.go e2).go e3
  · obtain ⟨a, b, B', rfl, s, eb1, c⟩ := w
    refine s_ret (ev_var (v := .ref l) rfl) fun H2 e2 => ?_
    have c' := c.go e2
    exact q l _ _ B' H2 (s.goH e2) c'.n c'.b c'.h rfl (pI' _)

abbrev Price := List Int × Int
abbrev eP : Enc Price := e2 (eT eI) eI
/-- what a road bears -/
def borne (r : Road) (ps : List Price) : Int := (ps.map fun p => if comesIn r p.1 then p.2 else 0).sum
theorem borne_nil (r : Road) : borne r [] = 0 := rfl
theorem borne_snoc (r : Road) (ps : List Price) (p : Price) : borne r (ps ++ [p]) = borne r ps + if comesIn r p.1 then p.2 else 0 := by
  unfold borne
  rw [List.map_append, List.sum_append]
  simp
/-- the list of f of each road -/
def Each (rs : List Road) (f : Nat → Road → Int) (ls : List Int) : Prop := ls.length = rs.length ∧ ∀ n r, rs[n]? = some r → ls[n]? = some (f n r)
theorem Each.congr {rs : List Road} {f g : Nat → Road → Int} {ls : List Int} (h : Each rs f ls) (e : ∀ n r, rs[n]? = some r → f n r = g n r) : Each rs g ls := ⟨h.1, fun n r hr => by rw [h.2 n r hr, e n r hr]⟩
theorem Each.set {rs : List Road} {f : Nat → Road → Int} {ls : List Int} {k : Nat} {v : Int} (h : Each rs f ls) (hk : k < rs.length) : Each rs (fun n r => if n = k then v else f n r) (ls.set k v) := by
  refine ⟨by rw [List.length_set]; exact h.1, fun n r hr => ?_⟩
  rw [List.getElem?_set]
  by_cases e : k = n
  · subst e
    rw [if_pos rfl, if_pos (by rw [h.1]; exact hk)]
    show some v = some (if k = k then v else f k r)
    rw [if_pos rfl]
  · rw [if_neg e]
    show ls[n]? = some (if n = k then v else f n r)
    rw [if_neg (fun q : n = k => e q.symm)]
    exact h.2 n r hr
theorem each_map (rs : List Road) (g : Road → Int) : Each rs (fun _ r => g r) (rs.map g) := ⟨by rw [List.length_map], fun n r hr => by rw [List.getElem?_map, hr]; rfl⟩
theorem each_eq {rs : List Road} {g : Road → Int} {ls : List Int} (h : Each rs (fun _ r => g r) ls) : ls = rs.map g := by
  refine List.ext_getElem? fun n => ?_
  rw [List.getElem?_map]
  cases hr : rs[n]? with
  | none =>
    have := List.getElem?_eq_none_iff.mp hr
    exact List.getElem?_eq_none (by rw [h.1]; exact this)
  | some r => exact h.2 n r hr
theorem sel_nodup {α : Type} (p : α → Bool) (xs : List α) (i : Nat) : (sel p xs i).Nodup := by
  refine up_nodup ?_
  unfold sel Up
  rw [List.pairwise_map]
  exact (List.Pairwise.sublist List.filter_sublist List.pairwise_lt_range).imp fun h => by omega
def leftM (rs : List Road) (ps : List Price) : List Int := rs.map fun r => r.2.2 - borne r ps
/-- one number more is taken off -/
theorem each_off {rs : List Road} {g : Road → Int} {ls ns : List Int} {j k : Nat} {pr : Int} (h : Each rs (fun n r => g r - if (n : Int) ∈ ns.take j then pr else 0) ls) (hn : ns.Nodup) (hj : ns[j]? = some (k : Int)) (hk : k < rs.length) {x : Int} (hx : ls[k]? = some x) :
    Each rs (fun n r => g r - if (n : Int) ∈ ns.take (j + 1) then pr else 0) (ls.set k (x - pr)) := by
  have hr : rs[k]? = some rs[k] := List.getElem?_eq_getElem hk
  have h1 := h.2 k _ hr
  rw [hx] at h1
  have hnot : ¬ (k : Int) ∈ ns.take j := fun hm => by
    obtain ⟨i, hi, e⟩ := List.mem_take_iff_getElem.mp hm
    obtain ⟨h2, e2⟩ := List.getElem?_eq_some_iff.mp hj
    have := (List.getElem_inj hn).mp (e.trans e2.symm)
    omega
  have h1 : x = g rs[k] - if (k : Int) ∈ ns.take j then pr else 0 := Option.some.inj h1
  rw [if_neg hnot] at h1
  refine (h.set (v := x - pr) hk).congr fun n r hr' => ?_
  have hta : ns.take (j + 1) = ns.take j ++ [(k : Int)] := by rw [List.take_add_one, hj, Option.toList_some]
  rw [hta]
  by_cases e : n = k
  · subst e
    rw [if_pos rfl, if_pos (List.mem_append_right _ (List.mem_singleton.mpr rfl))]
    rw [hr] at hr'
    cases hr'
    omega
  · rw [if_neg e]
    by_cases hm : (n : Int) ∈ ns.take j
    · rw [if_pos hm, if_pos (List.mem_append_left _ hm)]
    · rw [if_neg hm, if_neg]
      intro q
      rcases List.mem_append.mp q with q | q
      · exact hm q
      · have := List.mem_singleton.mp q
        omega
abbrev sp_left : Sp := SpecM (ar2 (eL eR) (eL eP)) (fun i => i.1.length ≤ 100 ∧ i.2.length ≤ 100) eI (fun i y => y = leftM i.1 i.2)
theorem d_left_over (F0 : FunAt K mg "left_over" s_left_over) (T : Txt K mg) (G_into : DefOk P w K mg base 1 "into" ["roads", "group"] sp_into) : DefOk P w K mg base 2 "left_over" ["roads", "prices"] sp_left := by
  refine mk_defM (k := 1) F0 sc_left_over (fun _ _ _ _ _ _ us hl => match us, hl with | [_, _], _ => rfl) (fun _ => (lenC (lenC lenN))) ?_
  intro f cdv A0 outer s E i B H vs Q hr x0 hA hp q
  obtain ⟨v0, _, _, rfl, rfl, h0, v1, _, _, rfl, rfl, h1, rfl⟩ := hA
  obtain ⟨y0, y1⟩ := i
  (try dsimp only at h0); (try dsimp only at h1); (try dsimp only at hp); (try dsimp only at q)
  refine ⟨_, (pss_cons (ps_setLc (i := 2) (own := [("road", 5)]) (g := gName 5) rfl sc_left_over.nd rfl rfl (sw_true rfl rfl rfl (by decide +kernel)) (pi_list (pv 0)) (blkOk_by (N := N_left_over) (sc := defScope s_left_over) (by decide +kernel)) (fun _ _ _ _ _ => pg_name (i := 5) sc_left_over.nd rfl (Or.inl rfl)) (fun _ _ _ _ _ => pts_nil) (fun _ _ _ _ _ => (pe_ix (k_ixt (K := K) rfl) (pv 5) pe_int (fun _ _ => rfl))))
      (pss_cons (ps_for PassesOwn.never rfl (pi_list (pv 1)) (pg_name (i := 3) sc_left_over.nd rfl (by first | exact Or.inl rfl | exact Or.inr rfl)) (pss_one (ps_for PassesOwn.never rfl (pi_list (pe_callD G_into (hr.mono (by decide)) (by rfl) (pa_cons (pv 0) (pa_cons (pe_ix (k_ixt (K := K) rfl) (pv 3) pe_int (fun _ _ => rfl)) pa_nil)))) (pg_name (i := 4) sc_left_over.nd rfl (by first | exact Or.inl rfl | exact Or.inr rfl)) (pss_one (ps_asg (pe_op op_sub (pe_ix (k_ixl (K := K) rfl) (pv 2) (pv 4) (fun _ _ => rfl)) (pe_ix (k_ixt (K := K) rfl) (pv 3) pe_int (fun _ _ => rfl))) (pg_sub (pv 2) (pv 4) set_list))))))
      (pss_one (ps_ret (pv 2))))), ?_⟩
  obtain ⟨hl0, hl1⟩ := hp
  refine q_setM (i := 2) (em_lcL (E := eR) (F := eI) (p := fun _ => true) (Tr := fun r y => y = r.2.2) x0 (es_var x0 rfl h0) (by omega) (fun v => rfl) (fun _ _ _ _ _ _ _ => et_yes) (fun r v B2 H2 s2 _ hr _ => es_32 s2.bh (es_var s2.bh rfl hr))) fun l vs xs B1 H1 s1 nl bl hl hx hpp => ?_
  rw [filter_yes] at hx
  have hx := pair_fun (f := fun r : Road => r.2.2) hx
  subst hx
  rw [pI hpp] at hl
  have c1 : Cell H B1 H1 l (.lst ((y0.map fun r => r.2.2).map V.int)) := ⟨nl, bl, hl⟩
  replace h0 := Enc.up _ s1.eb h0
  replace h1 := Enc.up _ s1.eb h1
  have hE : Each y0 (fun _ r => r.2.2 - borne r (y1.take 0)) (y0.map fun r => r.2.2) := (each_map y0 fun r => r.2.2).congr fun n r _ => by rw [List.take_zero, borne_nil]; omega
  clear hpp nl bl hl
  refine q_forE (E := eP) s1.bh ⟨_, ev_var (i := 1) rfl, h1⟩ (fun i σ' H' => ∃ a b B', ∃ ls : List Int, σ' = [some v0, some v1, some (.ref l), a, b, none] ∧ Stp B H B' H' ∧ Ex B1 B' ∧ Cell H B' H' l (.lst (ls.map V.int)) ∧ Each y0 (fun _ r => r.2.2 - borne r (y1.take i)) ls)
    (fun H2 e2 => ⟨none, none, B1, _, rfl, s1.goH e2, Ex.refl _, c1.go e2, hE⟩) (fun i σ' H' ⟨_, _, _, _, _, s, eb, _⟩ => eb.trans s.bh) (fun i pr v σ' H' hi hv w => ?_) (fun σ' H' w => ?_)
  · obtain ⟨a, b, B', ls, rfl, s2, eb, c2, hE2⟩ := w
    have h0' := Enc.up _ eb h0
    have hv' := Enc.up _ eb hv
    have x2 := s2.bh
    refine c_forL (E := eI) (T := fun ys => ys = intoM y0 pr.1) (em_call (y0, pr.1) x2 (ea_c x2 (mono_aC mono_aN) (es_var x2 rfl h0') (ea_c x2 mono_aN (es_20 x2 (es_var (E := eP) (i := 3) x2 rfl hv')) (ea_n x2))) hl0).s
      (fun ns B2 j σ' H' => ∃ b, ∃ ls : List Int, σ' = [some v0, some v1, some (.ref l), some v, b, none] ∧ Stp B H B2 H' ∧ Cell H B2 H' l (.lst (ls.map V.int)) ∧ Each y0 (fun n r => (r.2.2 - borne r (y1.take i)) - if (n : Int) ∈ ns.take j then pr.2 else 0) ls)
      (fun ns B2 H2 s3 hT => ⟨_, ls, rfl, s2.trans s3, c2.up s3, hE2.congr fun n r _ => by simp⟩) (fun ns B2 j σ' H' ⟨_, _, _, s, _⟩ => s.bh) (fun ns B2 j n w σ' H' hT eb2 hj hw W => ?_) (fun ns B2 σ' H' hT eb2 W => ?_)
    · obtain ⟨b, ls, rfl, s3, c3, hE3⟩ := W
      cases hw
      subst hT
      have hmem := mem_sel.mp (List.mem_of_getElem? hj)
      obtain ⟨g0, g1, r, g2, g3⟩ := hmem
      obtain ⟨k, rfl⟩ : ∃ k : Nat, n = (k : Int) := ⟨n.toNat, by omega⟩
      have hk : k < y0.length := by omega
      have hkl : k < ls.length := by rw [hE3.1]; exact hk
      have x3 := Ex.refl H'
      refine c_setL (i := 2) (j := k) (v := .int (ls[k] - pr.2)) c3 s3 (ev_sI (es_opI x3 (es_ixL (E := eI) (x := ls[k]) x3 (es_var x3 rfl (cell_L c3 (pI' ls))) (es_varI (i := 4) x3 rfl) (by omega) (by rw [Int.toNat_natCast]; exact List.getElem?_eq_getElem hkl)) (es_21 x3 (es_var (E := eP) (i := 3) x3 rfl (Enc.up _ (eb2.trans s3.bh) hv'))))) rfl (es_varI (i := 4) s3.bh rfl) (by rw [List.length_map]; exact hkl)
        fun H5 s5 c5 _ => ⟨_, ls.set k (ls[k] - pr.2), rfl, s5, ?_, each_off hE3 (sel_nodup _ _ _) hj hk (List.getElem?_eq_getElem hkl)⟩
      rw [List.map_set]
      exact c5
    · obtain ⟨b, ls, rfl, s3, c3, hE3⟩ := W
      subst hT
      refine ⟨_, b, B2, ls, rfl, s3, eb.trans eb2, c3, hE3.congr fun n r hr => ?_⟩
      rw [List.take_length, List.take_add_one, hi, Option.toList_some, borne_snoc]
      have hiff : ((n : Int) ∈ intoM y0 pr.1) ↔ comesIn r pr.1 = true := by
        unfold intoM
        rw [mem_sel]
        have hn := (List.getElem?_eq_some_iff.mp hr).1
        constructor
        · rintro ⟨_, _, r', h1, h2⟩
          rw [Int.toNat_natCast, hr] at h1
          cases h1
          exact h2
        · intro h
          exact ⟨by omega, by omega, r, by rw [Int.toNat_natCast]; exact hr, h⟩
      by_cases hc : comesIn r pr.1 = true
      · rw [if_pos (hiff.mpr hc), if_pos hc]
        omega
      · rw [if_neg (fun h => hc (hiff.mp h)), if_neg hc]
        omega
  · obtain ⟨a, b, B', ls, rfl, s, eb, c, hE⟩ := w
    rw [List.take_length] at hE
    have e := each_eq hE
    subst e
    refine s_ret (ev_var (v := .ref l) rfl) fun H2 e2 => ?_
    have c' := c.go e2
    exact q l _ _ B' H2 (s.goH e2) c'.n c'.b c'.h rfl (pI' _)
end
end RR
namespace RR
open PySem L2 Evl PyProof.Rows
section
variable {P : Program} {w : World} {K : PySem.W.Frag} {mg : Str → Option Value} {base : Heap}

abbrev sp_pair : Sp := Spec (ar2 eI eI) (fun i => Bd i.1 ∧ 2 ≤ i.2 ∧ i.2 ≤ 12) eP (fun _ _ => True)
theorem d__law_pair (F0 : FunAt K mg "_law_pair" s__law_pair) (T : Txt K mg) (G__law_mixed : DefOk P w K mg base 1 "_law_mixed" ["_law_cell", "_law_k"] sp_mixed) : DefOk P w K mg base 2 "_law_pair" ["_law_cell", "_law_many"] sp_pair := by
  refine mk_def (k := 1) F0 sc__law_pair (fun _ _ _ _ _ _ us hl => match us, hl with | [_, _], _ => rfl) (fun _ => (lenC (lenC lenN))) ?_
  intro f cdv A0 outer s E i B H vs Q hr x0 hA hp q
  obtain ⟨v0, _, _, rfl, rfl, h0, v1, _, _, rfl, rfl, h1, rfl⟩ := hA
  obtain ⟨y0, y1⟩ := i
  (try dsimp only at h0); (try dsimp only at h1); (try dsimp only at hp); (try dsimp only at q)
  refine ⟨_, (pss_cons (ps_set (i := 2) sc__law_pair.nd rfl (by first | exact Or.inl rfl | exact Or.inr rfl) (pe_tup pa_nil))
      (pss_cons (ps_set (i := 3) sc__law_pair.nd rfl (by first | exact Or.inl rfl | exact Or.inr rfl) (pe_op op_fdiv (pv 0) pe_int))
      (pss_cons (ps_for PassesOwn.never rfl (pi_range1 (by rfl) T.b_range (pa_cons (pv 1) pa_nil)) (pg_name (i := 4) sc__law_pair.nd rfl (by first | exact Or.inl rfl | exact Or.inr rfl)) (pss_cons (ps_if (pt_cmpR op_eq (pe_op op_mod (pe_op op_add (pv 3) (pe_op op_fdiv (pe_callD G__law_mixed (hr.mono (by decide)) (by rfl) (pa_cons (pv 0) (pa_cons (pv 4) pa_nil))) pe_int)) pe_int) pe_int (nomark _)) (pss_one (ps_set (i := 2) sc__law_pair.nd rfl (by first | exact Or.inl rfl | exact Or.inr rfl) (pe_op (k_catA (K := K) rfl) (pv 2) (pe_tup (pa_cons (pv 4) pa_nil))))) pss_nil)
      (pss_one (ps_set (i := 3) sc__law_pair.nd rfl (by first | exact Or.inl rfl | exact Or.inr rfl) (pe_op op_fdiv (pv 3) pe_int)))))
      (pss_cons (ps_set (i := 5) sc__law_pair.nd rfl (by first | exact Or.inl rfl | exact Or.inr rfl) (pe_tup (pa_cons (pe_ix (k_ixl (K := K) rfl) (pe_lst (pa_cons (pe_un un_neg pe_int) (pa_cons (pv 1) (pa_cons (pe_op op_pow pe_int pe_int) pa_nil)))) (pe_op op_mod (pe_op op_fdiv (pv 0) pe_int) pe_int) (fun _ _ => rfl)) pa_nil)))
      (pss_cons (ps_if (pt_cmpR op_eq (pe_op op_mod (pv 0) pe_int) pe_int (nomark _)) (pss_one (ps_set (i := 2) sc__law_pair.nd rfl (by first | exact Or.inl rfl | exact Or.inr rfl) (pe_ix (k_ixl (K := K) rfl) (pe_lst (pa_cons (pe_op (k_catA (K := K) rfl) (pv 5) (pv 2)) (pa_cons (pe_op (k_catA (K := K) rfl) (pv 2) (pv 5)) pa_nil))) (pe_op op_mod (pe_op op_fdiv (pv 0) pe_int) pe_int) (fun _ _ => rfl)))) pss_nil)
      (pss_cons (ps_set (i := 6) sc__law_pair.nd rfl (by first | exact Or.inl rfl | exact Or.inr rfl) (pe_op op_sub (pe_op op_mod (pe_op op_fdiv (pv 0) pe_int) pe_int) pe_int))
      (pss_cons (ps_if (pt_cmpR op_eq (pe_op op_mod (pv 0) pe_int) pe_int (nomark _)) (pss_one (ps_set (i := 6) sc__law_pair.nd rfl (by first | exact Or.inl rfl | exact Or.inr rfl) (pe_op op_mod (pe_op op_mulX (pe_op op_fdiv (pv 0) pe_int) (pe_op op_pow pe_int pe_int)) (pe_op op_pow pe_int pe_int)))) pss_nil)
      (pss_one (ps_ret (pe_tup (pa_cons (pv 2) (pa_cons (pv 6) pa_nil)))))))))))), ?_⟩
  cases h0
  cases h1
  obtain ⟨hb, hm, hm2⟩ := hp
  refine q_setS (E := eT eI) (es_tupT (ea_nil' x0) (by decide)) fun vg g0 B1 H1 s1 hg hvg => ?_
  cases hg
  have x1 := s1.bh
  refine q_setI (i := 3) (es_opC x1 (es_varI x1 rfl) (es_int x1) (⟨by omega, by omega⟩)) fun H2 e2 => ?_
  replace s1 := s1.goH e2
  refine q_forR (es_varI (n := y1) s1.bh rfl) ⟨by omega, by omega⟩ (fun i σ' H' => ∃ vg a n B', ∃ g : List Int, σ' = [some (.int y0), some (.int y1), some vg, some (.int n), a, none, none] ∧ Stp B H B' H' ∧ (eT eI).R B' vg g ∧ g.length ≤ i)
    (fun H3 e3 => ⟨vg, none, _, B1, [], rfl, s1.goH e3, hvg, Nat.le_refl _⟩) (fun i σ' H' hi w => ?_) (fun σ' H' w => ?_)
  · obtain ⟨vg, a, n, B', g, rfl, s2, hvg, hl⟩ := w
    have x2 := s2.bh
    refine q_ifSetE (E := eT eI) (i := 2) (T := fun g => g.length ≤ (i : Nat) + 1) (et_sT (es_eqI x2 (es_opC x2 (es_opI x2 (es_varI x2 rfl) (es_opC x2 (es_call ((y0, (i : Int))) x2 (ea_c x2 (mono_aC mono_aN) (es_varI x2 rfl) (ea_c x2 mono_aN (es_varI x2 rfl) (ea_n x2))) (⟨by show (-1000 : Int) ≤ _; omega, by show _ ≤ (1000 : Int); omega⟩)) (es_int x2) (⟨by omega, by omega⟩))) (es_int x2) (by first | (show (0 : Int) < _; omega) | (show (0 : Int) < _; decide +kernel))) (es_int x2))) x2 (fun hb => (es_catT (S := fun y => y = g) (T := fun xs => ∃ x, x = (i : Int) ∧ xs = [x]) x2 (es_var x2 rfl hvg) (es_tup1S x2 (es_varI x2 rfl)) (fun xs ys hx hy => ?_)).imp fun y hy => ?_) (fun hb => ⟨vg, g, rfl, by omega, hvg⟩) fun v g' B3 H3 s3 hg' hv' => ?_
    · obtain ⟨z, _, rfl⟩ := hy
      subst hx
      rw [List.length_singleton]
      omega
    · obtain ⟨xs, ys, rfl, ⟨z, _, rfl⟩, rfl⟩ := hy
      rw [List.length_append, List.length_singleton]
      omega
    · have x3 := (s2.trans s3).bh
      exact s_asg (i := 3) (ev_sI (es_opC x3 (es_varI (i := 3) x3 rfl) (es_int x3) ⟨by omega, by omega⟩)) fun H4 e4 => ⟨v, _, _, B3, g', rfl, (s2.trans s3).goH e4, hv', hg'⟩
  obtain ⟨vg, a, n, B2, g, rfl, s2, hvg, hl⟩ := w
  have hl : g.length ≤ 12 := by omega
  clear s1 x1
  have x2 := s2.bh
  refine q_setS (E := eT eI) (i := 5) (es_tup1S x2 (es_ixLMS (S := fun ys => ys = [-1, y1, 10 ^ (20 : Int).toNat]) x2 (em_lst (ea_cons' x2 (es_neg (es_int x2)) (ea_cons' x2 (es_varI x2 rfl) (ea_cons' x2 (es_opC x2 (es_int x2) (es_int x2) (⟨by decide, by decide, by decide⟩)) (ea_nil' x2)))) (by show 3 ≤ 100000; decide)).s (es_opC x2 (es_opC x2 (es_varI x2 rfl) (es_int x2) (⟨by omega, by omega⟩)) (es_int x2) (by first | (show (0 : Int) < _; omega) | (show (0 : Int) < _; decide +kernel))) (Int.emod_nonneg _ (by decide)) (fun xs hx => by subst hx; show _ < (3 : Int); exact Int.emod_lt_of_pos _ (by decide)))) fun vo od B3 H3 s3 ho hvo => ?_
  obtain ⟨z, _, rfl⟩ := ho
  replace s2 := s2.trans s3
  replace hvg := Enc.up _ s3.eb hvg
  have x3 := s2.bh
  refine q_ifSetE (E := eT eI) (i := 2) (T := fun _ => True) (et_sT (es_eqI x3 (es_opC x3 (es_varI x3 rfl) (es_int x3) (by first | (show (0 : Int) < _; omega) | (show (0 : Int) < _; decide +kernel))) (es_int x3))) x3 (fun hb => (es_ixLMS x3 (em_lst2S x3 (es_catT (S := fun y => y = [z]) (T := fun y => y = g) x3 (es_var x3 rfl hvo) (es_var x3 rfl hvg) (fun xs ys hx hy => ?_)) (es_catT (S := fun y => y = g) (T := fun y => y = [z]) x3 (es_var x3 rfl hvg) (es_var x3 rfl hvo) (fun xs ys hx hy => ?_))).s (es_opC x3 (es_opC x3 (es_varI x3 rfl) (es_int x3) (⟨by omega, by omega⟩)) (es_int x3) (by first | (show (0 : Int) < _; omega) | (show (0 : Int) < _; decide +kernel))) (Int.emod_nonneg _ (by decide)) (fun xs hx => ?_)).imp fun _ _ => True.intro) (fun hb => ⟨vg, g, rfl, True.intro, hvg⟩) fun v g' B4 H4 s4 _ hv' => ?_
  · subst hx hy
    rw [List.length_singleton]
    omega
  · subst hx hy
    rw [List.length_singleton]
    omega
  · obtain ⟨_, _, _, _, rfl⟩ := hx
    exact Int.emod_lt_of_pos _ (by decide)
  replace s2 := s2.trans s4
  have x4 := s2.bh
  refine q_setI (i := 6) (es_opI x4 (es_opC x4 (es_opC x4 (es_varI x4 rfl) (es_int x4) (⟨by omega, by omega⟩)) (es_int x4) (by first | (show (0 : Int) < _; omega) | (show (0 : Int) < _; decide +kernel))) (es_int x4)) fun H5 e5 => ?_
  replace s2 := s2.goH e5
  have x5 := s2.bh
  refine q_ifSetI (i := 6) (T := fun _ => True) (et_sT (es_eqI x5 (es_opC x5 (es_varI x5 rfl) (es_int x5) (by first | (show (0 : Int) < _; omega) | (show (0 : Int) < _; decide +kernel))) (es_int x5))) x5 (fun hc => EvS.imp (es_opC x5 (es_opC x5 (es_opC x5 (es_varI x5 rfl) (es_int x5) (⟨by omega, by omega⟩)) (es_opC x5 (es_int x5) (es_int x5) (⟨by decide, by decide, by decide⟩)) (Bd.mul (Bd.div hb (by omega)) (by decide +kernel))) (es_opC x5 (es_int x5) (es_int x5) (⟨by decide, by decide, by decide⟩)) (by first | (show (0 : Int) < _; omega) | (show (0 : Int) < _; decide +kernel))) fun y hy => True.intro) (fun hc => ⟨_, rfl, True.intro⟩) fun pr B6 H6 s6 _ => ?_
  replace s2 := s2.trans s6
  replace hv' := Enc.up _ s6.eb hv'
  have x6 := s2.bh
  exact c_ret s2 (es_tup2 x6 (es_var x6 rfl hv') (es_varI x6 rfl)) fun w y B3 H3 s hy hR => q w y B3 H3 s True.intro hR

abbrev spLaw (K : PySem.W.Frag) : Sp := Spec (ar1 (eScr K)) (fun ns => ns.length ≤ 63 ∧ ∀ n ∈ ns, Bd n) eB (fun _ y => y = true)
theorem d_law {f : Addr} {fd : FuncData} (F0 : Fun K "law" "law" s_law f fd) (T : Txt K mg) (G__law_cell_at : DefOk P w K mg base 1 "_law_cell_at" ["_law_script", "_law_k"] (sp_cell K)) (G__law_road : DefOk P w K mg base 2 "_law_road" ["_law_cell", "_law_many"] sp_road) (G__law_pair : DefOk P w K mg base 2 "_law_pair" ["_law_cell", "_law_many"] sp_pair) (G_left_over : DefOk P w K mg base 2 "left_over" ["roads", "prices"] sp_left) : FnOk P w K mg base CX0 4 f fd ["_law_script"] (spLaw K) := by
  refine mk_fn (k := 3) F0 sc_law (fun _ => (lenC lenN)) ?_
  intro cdv A0 outer s E i B H vs Q hr x0 hA hp q
  obtain ⟨v0, y0, _, rfl, rfl, h0, rfl⟩ := hA
  refine ⟨_, (pss_cons (ps_set (i := 1) sc_law.nd rfl (by first | exact Or.inl rfl | exact Or.inr rfl) (pe_op op_add pe_int (pe_op op_mod (pe_callD G__law_cell_at (hr.mono (by decide)) (by rfl) (pa_cons (pv 0) (pa_cons pe_int pa_nil))) pe_int)))
      (pss_cons (ps_if (pt_cmpR op_eq (pe_op op_mod (pe_op op_fdiv (pe_callD G__law_cell_at (hr.mono (by decide)) (by rfl) (pa_cons (pv 0) (pa_cons pe_int pa_nil))) pe_int) pe_int) pe_int (nomark _)) (pss_one (ps_set (i := 1) sc_law.nd rfl (by first | exact Or.inl rfl | exact Or.inr rfl) (pe_op op_add pe_int (pe_op op_mod (pe_op op_fdiv (pe_callD G__law_cell_at (hr.mono (by decide)) (by rfl) (pa_cons (pv 0) (pa_cons pe_int pa_nil))) pe_int) pe_int)))) pss_nil)
      (pss_cons (ps_setLc (i := 2) (own := [("_law_cell", 9)]) (g := gName 9) rfl sc_law.nd rfl rfl (sw_true rfl rfl rfl (by decide +kernel)) (pi_list (pe_slice (k_sll (K := K) rfl) (pv 0) (po_some pe_int) (po_some pe_int))) (blkOk_by (N := N_law) (sc := defScope s_law) (by decide +kernel)) (fun _ _ _ _ _ => pg_name (i := 9) sc_law.nd rfl (Or.inl rfl)) (fun _ _ _ _ _ => pts_nil) (fun _ _ _ _ _ => (pe_callD G__law_road (hr.mono (by decide)) (by rfl) (pa_cons (pv 9) (pa_cons (pv 1) pa_nil)))))
      (pss_cons (ps_setLc (i := 3) (own := [("_law_cell", 9)]) (g := gName 9) rfl sc_law.nd rfl rfl (sw_true rfl rfl rfl (by decide +kernel)) (pi_list (pe_slice (k_sll (K := K) rfl) (pv 0) (po_some pe_int) (po_some (pe_op op_add pe_int (pe_op op_mod (pe_callD G__law_cell_at (hr.mono (by decide)) (by rfl) (pa_cons (pv 0) (pa_cons pe_int pa_nil))) pe_int))))) (blkOk_by (N := N_law) (sc := defScope s_law) (by decide +kernel)) (fun _ _ _ _ _ => pg_name (i := 9) sc_law.nd rfl (Or.inl rfl)) (fun _ _ _ _ _ => pts_nil) (fun _ _ _ _ _ => (pe_callD G__law_pair (hr.mono (by decide)) (by rfl) (pa_cons (pv 9) (pa_cons (pv 1) pa_nil)))))
      (pss_cons (ps_set (i := 4) sc_law.nd rfl (by first | exact Or.inl rfl | exact Or.inr rfl) (pe_lst (pa_cons (pe_callTy (k_list (K := K) rfl) (by rfl) T.b_list (by decide +kernel) (pa_cons (pv 2) pa_nil)) (pa_cons (pe_callTy (k_list (K := K) rfl) (by rfl) T.b_list (by decide +kernel) (pa_cons (pv 3) pa_nil)) pa_nil))))
      (pss_cons (ps_set (i := 5) sc_law.nd rfl (by first | exact Or.inl rfl | exact Or.inr rfl) (pe_callD G_left_over (hr.mono (by decide)) (by rfl) (pa_cons (pe_ix (k_ixl (K := K) rfl) (pv 4) pe_int (fun _ _ => rfl)) (pa_cons (pe_ix (k_ixl (K := K) rfl) (pv 4) pe_int (fun _ _ => rfl)) pa_nil))))
      (pss_cons (ps_if (pw_or (pt_not (pt_val (pe_callB (k_isi (K := K) rfl) (by rfl) T.b_isinstance (by decide +kernel) (pa_cons (pv 5) (pa_cons (pe_bltn (v := .ty "list") (u := .type "list") (by rfl) T.b_list (by decide +kernel) rfl) pa_nil))))) (pw_or (pt_cmpR op_ne (pe_callB (k_len (K := K) rfl) (by rfl) T.b_len (by decide +kernel) (pa_cons (pv 5) pa_nil)) (pe_callB (k_len (K := K) rfl) (by rfl) T.b_len (by decide +kernel) (pa_cons (pv 2) pa_nil)) (nomark _)) (pw_or1 (pt_cmpR (k_neD hr.units (K := K) rfl) (pv 4) (pe_lst (pa_cons (pv 2) (pa_cons (pv 3) pa_nil))) (nomark _))))).pt (pss_one (ps_ret pe_bl)) pss_nil)
      (pss_cons (ps_for PassesOwn.never rfl (pi_range1 (by rfl) T.b_range (pa_cons (pe_callB (k_len (K := K) rfl) (by rfl) T.b_len (by decide +kernel) (pa_cons (pv 2) pa_nil)) pa_nil)) (pg_name (i := 6) sc_law.nd rfl (by first | exact Or.inl rfl | exact Or.inr rfl)) (pss_cons (ps_set (i := 7) sc_law.nd rfl (by first | exact Or.inl rfl | exact Or.inr rfl) (pe_ix (k_ixt (K := K) rfl) (pe_ix (k_ixl (K := K) rfl) (pv 2) (pv 6) (fun _ _ => rfl)) pe_int (fun _ _ => rfl)))
      (pss_cons (ps_for PassesOwn.never rfl (pi_list (pv 3)) (pg_name (i := 8) sc_law.nd rfl (by first | exact Or.inl rfl | exact Or.inr rfl)) (pss_one (ps_if (pw_and (pt_cmpR (k_in (K := K) rfl) (pe_ix (k_ixt (K := K) rfl) (pe_ix (k_ixl (K := K) rfl) (pv 2) (pv 6) (fun _ _ => rfl)) pe_int (fun _ _ => rfl)) (pe_ix (k_ixt (K := K) rfl) (pv 8) pe_int (fun _ _ => rfl)) (by rfl)) (pw_and1 (pt_cmpR (k_notin (K := K) rfl) (pe_ix (k_ixt (K := K) rfl) (pe_ix (k_ixl (K := K) rfl) (pv 2) (pv 6) (fun _ _ => rfl)) pe_int (fun _ _ => rfl)) (pe_ix (k_ixt (K := K) rfl) (pv 8) pe_int (fun _ _ => rfl)) (by rfl)))).pt (pss_one (ps_set (i := 7) sc_law.nd rfl (by first | exact Or.inl rfl | exact Or.inr rfl) (pe_op op_sub (pv 7) (pe_ix (k_ixt (K := K) rfl) (pv 8) pe_int (fun _ _ => rfl))))) pss_nil)))
      (pss_one (ps_if (pw_or (pt_not (pt_val (pe_callB (k_isi (K := K) rfl) (by rfl) T.b_isinstance (by decide +kernel) (pa_cons (pe_ix (k_ixl (K := K) rfl) (pv 5) (pv 6) (fun _ _ => rfl)) (pa_cons (pe_bltn (v := .ty "int") (u := .type "int") (by rfl) T.b_int (by decide +kernel) rfl) pa_nil))))) (pw_or (pt_val (pe_callB (k_isi (K := K) rfl) (by rfl) T.b_isinstance (by decide +kernel) (pa_cons (pe_ix (k_ixl (K := K) rfl) (pv 5) (pv 6) (fun _ _ => rfl)) (pa_cons (pe_bltn (v := .ty "bool") (u := .type "bool") (by rfl) T.b_bool (by decide +kernel) rfl) pa_nil)))) (pw_or1 (pt_cmpR op_ne (pe_ix (k_ixl (K := K) rfl) (pv 5) (pv 6) (fun _ _ => rfl)) (pv 7) (nomark _))))).pt (pss_one (ps_ret pe_bl)) pss_nil)))))
      (pss_one (ps_ret pe_bl)))))))))), ?_⟩
  obtain ⟨hlen, hbd⟩ := hp
  refine q_setI (i := 1) (es_opI x0 (es_int x0) (es_opC x0 (es_call ((y0, 0)) x0 (ea_c x0 (mono_aC mono_aN) (es_var x0 rfl h0) (ea_c x0 mono_aN (es_int x0) (ea_n x0))) (by show (0 : Int) ≤ _; omega)) (es_int x0) (by first | (show (0 : Int) < _; omega) | (show (0 : Int) < _; decide +kernel)))) fun H1 e1 => ?_
  have x1 := x0.trans e1
  refine q_ifSetI (T := fun m => 2 ≤ m ∧ m ≤ 12) (et_sT (es_eqI x1 (es_opC x1 (es_opC x1 (es_call ((y0, 0)) x1 (ea_c x1 (mono_aC mono_aN) (es_var x1 rfl h0) (ea_c x1 mono_aN (es_int x1) (ea_n x1))) (by show (0 : Int) ≤ _; omega)) (es_int x1) (⟨by omega, by omega⟩)) (es_int x1) (by first | (show (0 : Int) < _; omega) | (show (0 : Int) < _; decide +kernel))) (es_int x1))) x1 (fun hb => EvS.imp (es_opI x1 (es_int x1) (es_opC x1 (es_opC x1 (es_call ((y0, 0)) x1 (ea_c x1 (mono_aC mono_aN) (es_var x1 rfl h0) (ea_c x1 mono_aN (es_int x1) (ea_n x1))) (by show (0 : Int) ≤ _; omega)) (es_int x1) (⟨by omega, by omega⟩)) (es_int x1) (by first | (show (0 : Int) < _; omega) | (show (0 : Int) < _; decide +kernel)))) fun y hy => ?_) (fun hb => ⟨_, rfl, ?_⟩) fun m B2 H2 s2 hm => ?_
  · rw [hy]
    omega
  · omega
  replace s2 := (Stp.go x0 e1).trans s2
  replace h0 := Enc.up _ s2.eb h0
  have x2 := s2.bh
  have hcl : (cutP y0 (some 12) (some 42)).length ≤ 30 := cutP_seg y0 (by decide) (by decide)
  refine q_setS (em_lcL (E := eI) (F := eR) (p := fun _ => true) (Tr := fun _ r => OkR m r) x2 (em_slS x2 (es_var x2 rfl h0) (eo_some' (es_int x2)) (eo_some' (es_int x2))).s (by omega) (fun v => rfl) (fun _ _ _ _ _ _ _ => et_yes) (fun z v B3 H3 s4 hz hR _ => ?_)).s fun v1 rs B3 H3 s3 hT hv1 => ?_
  · cases hR
    exact es_call (z, m) s4.bh (ea_c s4.bh (mono_aC mono_aN) (es_varI s4.bh rfl) (ea_c s4.bh mono_aN (es_varI s4.bh rfl) (ea_n s4.bh))) ⟨hbd z (cutP_mem hz), hm.1, hm.2⟩
  rw [filter_yes] at hT
  have hrl : rs.length ≤ 30 := by
    rw [pair_len hT]
    exact hcl
  clear hT
  replace s2 := s2.trans s3
  replace h0 := Enc.up _ s3.eb h0
  clear x2
  have x2 := s2.bh
  have hq0 := Int.emod_nonneg (cellM y0 1) (show (10 : Int) ≠ 0 by decide)
  have hq1 := Int.emod_lt_of_pos (cellM y0 1) (show (0 : Int) < 10 by decide)
  have hcl2 : (cutP y0 (some 2) (some (2 + cellM y0 1 % 10))).length ≤ 9 := Nat.le_trans (cutP_seg y0 (by decide) (by omega)) (by omega)
  refine q_setS (em_lcL (E := eI) (F := eP) (p := fun _ => true) (Tr := fun _ _ => True) x2 (em_slS x2 (es_var x2 rfl h0) (eo_some' (es_int x2)) (eo_some' (es_opI x2 (es_int x2) (es_opC x2 (es_call ((y0, 1)) x2 (ea_c x2 (mono_aC mono_aN) (es_var x2 rfl h0) (ea_c x2 mono_aN (es_int x2) (ea_n x2))) (by show (0 : Int) ≤ _; omega)) (es_int x2) (by first | (show (0 : Int) < _; omega) | (show (0 : Int) < _; decide +kernel)))))).s (by show (cutP y0 (some 2) (some (2 + cellM y0 1 % 10))).length ≤ 40000; omega) (fun v => rfl) (fun _ _ _ _ _ _ _ => et_yes) (fun z v B3 H3 s4 hz hR _ => ?_)).s fun v2 ps B4 H4 s4 hT hv2 => ?_
  · cases hR
    exact (es_call (z, m) s4.bh (ea_c s4.bh (mono_aC mono_aN) (es_varI s4.bh rfl) (ea_c s4.bh mono_aN (es_varI s4.bh rfl) (ea_n s4.bh))) ⟨hbd z (cutP_mem hz), hm.1, hm.2⟩)
  rw [filter_yes] at hT
  have hpl : ps.length ≤ 9 := by
    rw [pair_len hT]
    exact hcl2
  clear hT
  replace s2 := s2.trans s4
  replace hv1 := Enc.up _ s4.eb hv1
  clear x2
  have x2 := s2.bh
  refine q_setS (E := eL2 (eL eR) (eL eP)) (es_lst2 x2 (em_listL x2 (es_var x2 rfl hv1)).s (em_listL x2 (es_var x2 rfl hv2)).s) fun v3 hd B5 H5 s5 hh hv3 => ?_
  cases hh
  replace s2 := s2.trans s5
  replace hv1 := Enc.up _ s5.eb hv1
  replace hv2 := Enc.up _ s5.eb hv2
  clear x2
  have x2 := s2.bh
  refine q_setS (em_call (rs, ps) x2 (ea_c x2 (mono_aC mono_aN) (es_l20 x2 (es_var (E := eL2 (eL eR) (eL eP)) (i := 4) x2 rfl hv3)) (ea_c x2 mono_aN (es_l21 x2 (es_var (E := eL2 (eL eR) (eL eP)) (i := 4) x2 rfl hv3)) (ea_n x2))) ⟨by show rs.length ≤ 100; omega, by show ps.length ≤ 100; omega⟩).s fun v4 found B6 H6 s6 hf hv4 => ?_
  cases hf
  replace s2 := s2.trans s6
  replace hv1 := Enc.up _ s6.eb hv1
  replace hv2 := Enc.up _ s6.eb hv2
  replace hv3 := Enc.up _ s6.eb hv3
  clear x2
  have x2 := s2.bh
  refine q_when (et_or (et_not (et_sB (es_isiL x2 (es_var x2 rfl hv4) k_ll))) fun _ => et_or (et_sT (es_neI x2 (es_lenL x2 (es_var x2 rfl hv4)) (es_lenL x2 (es_var x2 rfl hv1)))) fun _ => et_sT (es_neSame (deL2 (deL deR) (deL (de2 (deT deI) deI))) (by decide) x2 (es_var x2 rfl hv3) (es_lst2 x2 (es_var x2 rfl hv1) (es_var x2 rfl hv2)))) (fun hb => ?_) (fun _ H7 e7 => ?_)
  · simp [leftM] at hb
  replace s2 := s2.goH e7
  clear x2
  have x2 := s2.bh
  refine q_forR (es_lenL x2 (es_var x2 rfl hv1)) ⟨by omega, by omega⟩ (fun i σ' H' => ∃ a b c, σ' = [some v0, some (.int m), some v1, some v2, some v3, some v4, a, b, c, none] ∧ Stp B H B6 H')
    (fun H4 e4 => ⟨none, none, none, rfl, s2.goH e4⟩) (fun i σ' H' hi w => ?_) (fun σ' H' w => ?_)
  · obtain ⟨a, b, c, rfl, s3⟩ := w
    have x3 := s3.bh
    have hi' : i < rs.length := by omega
    have hx : rs[i]? = some rs[i] := List.getElem?_eq_getElem hi'
    generalize rs[i] = r at hx
    have hix : ∀ {σ H'}, σ[6]? = some (some (V.int i)) → σ[2]? = some (some v1) → Ex B6 H' → EvE eR (tOp (rIxL K) (tVar 2) (tVar 6)) σ B6 H' r := fun h6 h2 x => es_ixL x (es_var x h2 hv1) (es_varI x h6) (by omega) (by rw [Int.toNat_natCast]; exact hx)
    refine q_setI (i := 7) (es_32 x3 (hix rfl rfl x3)) fun H8 e8 => ?_
    replace s3 := s3.goH e8
    refine q_forE (E := eP) s3.bh ⟨_, ev_var (i := 3) rfl, hv2⟩ (fun j σ' H' => ∃ b, σ' = [some v0, some (.int m), some v1, some v2, some v3, some v4, some (.int i), some (.int (r.2.2 - borne r (ps.take j))), b, none] ∧ Stp B H B6 H')
      (fun H4 e4 => ⟨_, by rw [List.take_zero, borne_nil, Int.sub_zero]; rfl, s3.goH e4⟩) (fun j σ' H' ⟨_, _, s⟩ => s.bh) (fun j pr v σ' H' hj hv w => ?_) (fun σ' H' w => ?_)
    · obtain ⟨b, rfl, s4⟩ := w
      have x4 := s4.bh
      have hsn : borne r (ps.take (j + 1)) = borne r (ps.take j) + if comesIn r pr.1 then pr.2 else 0 := by
        rw [List.take_add_one, hj, Option.toList_some, borne_snoc]
      refine c_ifSetI (i := 7) (B := B6) (b := comesIn r pr.1) (T := fun n => n = r.2.2 - borne r (ps.take (j + 1))) (et_and (et_sT (es_inT x4 (es_31 x4 (hix rfl rfl x4)) (es_20 x4 (es_var (E := eP) (i := 8) x4 rfl hv)))) fun _ => et_sT (es_ninT x4 (es_30 x4 (hix rfl rfl x4)) (es_20 x4 (es_var (E := eP) (i := 8) x4 rfl hv)))) x4
        (fun hb => (es_opI x4 (es_varI (i := 7) x4 rfl) (es_21 x4 (es_var (E := eP) (i := 8) x4 rfl hv))).imp fun y hy => ?_) (fun hb => ⟨_, rfl, ?_⟩) fun n B7 H7 s7 hn => ?_
      · rw [hy, hsn, if_pos hb]
        omega
      · rw [hsn, if_neg (by rw [hb]; decide)]
        omega
      · subst hn
        exact ⟨_, rfl, s4.goH s7.eh⟩
    · obtain ⟨b, rfl, s4⟩ := w
      rw [List.take_length]
      have x4 := s4.bh
      have hfi : (leftM rs ps)[i]? = some (r.2.2 - borne r ps) := by
        unfold leftM
        rw [List.getElem?_map, hx]
        rfl
      have hfe : ∀ {σ H'}, σ[6]? = some (some (V.int i)) → σ[5]? = some (some v4) → Ex B6 H' → EvE eI (tOp (rIxL K) (tVar 5) (tVar 6)) σ B6 H' (r.2.2 - borne r ps) := fun h6 h2 x => es_ixL x (es_var x h2 hv4) (es_varI x h6) (by omega) (by rw [Int.toNat_natCast]; exact hfi)
      refine s_when (et_or (et_not (et_sB (es_isiI x4 (hfe rfl rfl x4) k_ii))) fun _ => et_or (et_sB (es_isiI x4 (hfe rfl rfl x4) k_ib)) fun _ => et_sT (es_neI x4 (hfe rfl rfl x4) (es_varI (i := 7) x4 rfl))) (fun hb => ?_) fun _ H9 e9 => ⟨_, _, _, rfl, s4.goH e9⟩
      simp at hb
  · obtain ⟨a, b, c, rfl, s3⟩ := w
    exact c_ret s3 (es_bl s3.bh) fun w y B3 H3 s hy hR => q w y B3 H3 s hy hR
end
theorem all_mk {l : PySem.W.OpenLaw} {w : World} {K : PySem.W.Frag} {h : Heap} {mg : Str → Option Value} {fa f0 f1 f2 f3 f4 f5 f6 f7 : Addr} (X : K.In h) (G : h.Ns mainGlobals mg) (hfa : mg "law" = some (.ref fa))
    {od0 an0 od1 an1 od2 an2 od3 an3 od4 an4 od5 an5 od6 an6 od7 an7 : Option Addr} {sl0 sl1 sl2 sl3 sl4 sl5 sl6 sl7 : Array (Option Value)} {oc0 kV0 dc0 pm0 cd0 ct0 oc1 kV1 dc1 pm1 cd1 ct1 oc2 kV2 dc2 pm2 cd2 ct2 oc3 kV3 dc3 pm3 cd3 ct3 oc4 kV4 dc4 pm4 cd4 ct4 oc5 kV5 dc5 pm5 cd5 ct5 oc6 kV6 dc6 pm6 cd6 ct6 oc7 kV7 dc7 pm7 cd7 ct7 : Value}
    (a0 : PySem.W.nsIn K mainGlobals "_law_cell_at" = some (some (.ref f0))) (l0 : K.lookup f0 = some ⟨oc0, od0, .func (PySem.W.fnOf "_law_cell_at" "_law_cell_at" (defArgs s__law_cell_at) (defBody s__law_cell_at) (defScope s__law_cell_at) .none kV0 dc0 pm0 an0 cd0 ct0), sl0⟩) (c0 : PySem.W.codeIn K cd0 "_law_cell_at" = true) (k0 : PySem.W.keepIn K (.ref f0) = true)
    (a1 : PySem.W.nsIn K mainGlobals "_law_mixed" = some (some (.ref f1))) (l1 : K.lookup f1 = some ⟨oc1, od1, .func (PySem.W.fnOf "_law_mixed" "_law_mixed" (defArgs s__law_mixed) (defBody s__law_mixed) (defScope s__law_mixed) .none kV1 dc1 pm1 an1 cd1 ct1), sl1⟩) (c1 : PySem.W.codeIn K cd1 "_law_mixed" = true) (k1 : PySem.W.keepIn K (.ref f1) = true)
    (a2 : PySem.W.nsIn K mainGlobals "_law_cost" = some (some (.ref f2))) (l2 : K.lookup f2 = some ⟨oc2, od2, .func (PySem.W.fnOf "_law_cost" "_law_cost" (defArgs s__law_cost) (defBody s__law_cost) (defScope s__law_cost) .none kV2 dc2 pm2 an2 cd2 ct2), sl2⟩) (c2 : PySem.W.codeIn K cd2 "_law_cost" = true) (k2 : PySem.W.keepIn K (.ref f2) = true)
    (a3 : PySem.W.nsIn K mainGlobals "_law_road" = some (some (.ref f3))) (l3 : K.lookup f3 = some ⟨oc3, od3, .func (PySem.W.fnOf "_law_road" "_law_road" (defArgs s__law_road) (defBody s__law_road) (defScope s__law_road) .none kV3 dc3 pm3 an3 cd3 ct3), sl3⟩) (c3 : PySem.W.codeIn K cd3 "_law_road" = true) (k3 : PySem.W.keepIn K (.ref f3) = true)
    (a4 : PySem.W.nsIn K mainGlobals "into" = some (some (.ref f4))) (l4 : K.lookup f4 = some ⟨oc4, od4, .func (PySem.W.fnOf "into" "into" (defArgs s_into) (defBody s_into) (defScope s_into) .none kV4 dc4 pm4 an4 cd4 ct4), sl4⟩) (c4 : PySem.W.codeIn K cd4 "into" = true) (k4 : PySem.W.keepIn K (.ref f4) = true)
    (a5 : PySem.W.nsIn K mainGlobals "left_over" = some (some (.ref f5))) (l5 : K.lookup f5 = some ⟨oc5, od5, .func (PySem.W.fnOf "left_over" "left_over" (defArgs s_left_over) (defBody s_left_over) (defScope s_left_over) .none kV5 dc5 pm5 an5 cd5 ct5), sl5⟩) (c5 : PySem.W.codeIn K cd5 "left_over" = true) (k5 : PySem.W.keepIn K (.ref f5) = true)
    (a6 : PySem.W.nsIn K mainGlobals "_law_pair" = some (some (.ref f6))) (l6 : K.lookup f6 = some ⟨oc6, od6, .func (PySem.W.fnOf "_law_pair" "_law_pair" (defArgs s__law_pair) (defBody s__law_pair) (defScope s__law_pair) .none kV6 dc6 pm6 an6 cd6 ct6), sl6⟩) (c6 : PySem.W.codeIn K cd6 "_law_pair" = true) (k6 : PySem.W.keepIn K (.ref f6) = true)
    (a7 : PySem.W.nsIn K mainGlobals "law" = some (some (.ref f7))) (l7 : K.lookup f7 = some ⟨oc7, od7, .func (PySem.W.fnOf "law" "law" (defArgs s_law) (defBody s_law) (defScope s_law) .none kV7 dc7 pm7 an7 cd7 ct7), sl7⟩) (c7 : PySem.W.codeIn K cd7 "law" = true) (k7 : PySem.W.keepIn K (.ref f7) = true)
    (z_bool : PySem.W.nsIn K mainGlobals "bool" = some none)
    (z_enumerate : PySem.W.nsIn K mainGlobals "enumerate" = some none)
    (z_int : PySem.W.nsIn K mainGlobals "int" = some none)
    (z_isinstance : PySem.W.nsIn K mainGlobals "isinstance" = some none)
    (z_len : PySem.W.nsIn K mainGlobals "len" = some none)
    (z_list : PySem.W.nsIn K mainGlobals "list" = some none)
    (z_range : PySem.W.nsIn K mainGlobals "range" = some none)
    : ∃ fd : FuncData, (∀ (s : Shared) (v : Value), BindsTo s fd ⟨[v], []⟩ [("_law_script", v)]) ∧ ∀ base : Heap, K.In base → base.Ns mainGlobals mg → FnOk l.prog w K mg base CX0 4 fa fd ["_law_script"] (spLaw K) := by
  have e := hfa.symm.trans (PySem.W.mg_of X G a7)
  cases e
  have T : Txt K mg := ⟨PySem.W.mg_none_of X G z_bool, PySem.W.mg_none_of X G z_enumerate, PySem.W.mg_none_of X G z_int, PySem.W.mg_none_of X G z_isinstance, PySem.W.mg_none_of X G z_len, PySem.W.mg_none_of X G z_list, PySem.W.mg_none_of X G z_range⟩
  refine ⟨PySem.W.fnOf "law" "law" (defArgs s_law) (defBody s_law) (defScope s_law) .none kV7 dc7 pm7 an7 cd7 ct7, fun s v => .of_eq rfl, fun base _ _ => ?_⟩
  have G__law_cell_at := d__law_cell_at (P := l.prog) (w := w) (base := base) ⟨f0, _, fun_mk (st := s__law_cell_at) l0 c0 k0, PySem.W.mg_of X G a0⟩ T 
  have G__law_mixed := d__law_mixed (P := l.prog) (w := w) (base := base) ⟨f1, _, fun_mk (st := s__law_mixed) l1 c1 k1, PySem.W.mg_of X G a1⟩ T 
  have G__law_cost := d__law_cost (P := l.prog) (w := w) (base := base) ⟨f2, _, fun_mk (st := s__law_cost) l2 c2 k2, PySem.W.mg_of X G a2⟩ T 
  have G__law_road := d__law_road (P := l.prog) (w := w) (base := base) ⟨f3, _, fun_mk (st := s__law_road) l3 c3 k3, PySem.W.mg_of X G a3⟩ T G__law_cost
  have G_into := d_into (P := l.prog) (w := w) (base := base) ⟨f4, _, fun_mk (st := s_into) l4 c4 k4, PySem.W.mg_of X G a4⟩ T 
  have G_left_over := d_left_over (P := l.prog) (w := w) (base := base) ⟨f5, _, fun_mk (st := s_left_over) l5 c5 k5, PySem.W.mg_of X G a5⟩ T G_into
  have G__law_pair := d__law_pair (P := l.prog) (w := w) (base := base) ⟨f6, _, fun_mk (st := s__law_pair) l6 c6 k6, PySem.W.mg_of X G a6⟩ T G__law_mixed
  exact d_law (P := l.prog) (w := w) (base := base) (fun_mk (st := s_law) l7 c7 k7) T G__law_cell_at G__law_road G__law_pair G_left_over
theorem walk {l : PySem.W.OpenLaw} {q : Program} {loose : List Str} {XP : (Str → Option Value) → Heap → Prop} {YP : World → Heap → Prop} {d : DefRec} {K : Params → PySem.W.Frag} (hn : l.most = some 63) (hdf : d.params.defaults = [])
    (hY : ∀ (w : World) (h : Heap), YP w h → (K w.params).In h)
    (F : ∀ (w : World) (mg : Str → Option Value) (fa : Addr) (h : Heap), (K w.params).In h → h.Ns mainGlobals mg → mg d.name = some (.ref fa) →
      ∃ fd : FuncData, (∀ (s : Shared) (u : Value), BindsTo s fd ⟨[u], []⟩ [("_law_script", u)]) ∧ ∀ base : Heap, (K w.params).In base → base.Ns mainGlobals mg → FnOk l.prog w (K w.params) mg base CX0 4 fa fd ["_law_script"] (spLaw (K w.params))) :
    PySem.W.WalkO q loose XP YP l.row.toRowW d [] (fun f vs => PySem.call f vs) :=
  L2.walk_ofB (n := 63) (k := 4) (x := "_law_script") (CX := fun _ => CX0) (sp := fun w => spLaw (K w.params)) hn (by decide) hdf ⟨rfl, by decide, by decide⟩ hY F (fun _ H a ns hl hb _ hS =>
    ⟨ns, H, Ex.refl H, ⟨_, ns, [], rfl, rfl, ⟨a, rfl, hS⟩, rfl⟩, ⟨hl, fun z hz => Bd.bits (hb z hz)⟩, fun w y B2 H2 _ hy hR => by cases hy; exact hR⟩) fun _ _ _ _ _ z => z
end RR
open PySem PySem.W PyProof.Rows in
set_option maxRecDepth 100000 in
set_option maxHeartbeats 0 in
theorem PySem.Challenge.cw_rootroads_k06_left_over_holds : PySem.Challenge.rw_rootroads_k06_left_over.Holds := by
  w_on; o_law; k_head; (case hw => w_witness2)
  k_fill
  refine RR.walk (l := PySem.Challenge.rw_rootroads_k06_left_over) rfl rfl (fun w h Y => PySem.W.kIn_of Y) ?F
  case F =>
    intro w mg fa h KX G hmg
    refine' RR.all_mk KX G hmg ?a0 ?l0 ?c0 ?k0 ?a1 ?l1 ?c1 ?k1 ?a2 ?l2 ?c2 ?k2 ?a3 ?l3 ?c3 ?k3 ?a4 ?l4 ?c4 ?k4 ?a5 ?l5 ?c5 ?k5 ?a6 ?l6 ?c6 ?k6 ?a7 ?l7 ?c7 ?k7 ?z_bool ?z_enumerate ?z_int ?z_isinstance ?z_len ?z_list ?z_range
    (case a0 => k_is)
    (case l0 => k_is)
    (case c0 => k_is)
    (case k0 => k_is)
    (case a1 => k_is)
    (case l1 => k_is)
    (case c1 => k_is)
    (case k1 => k_is)
    (case a2 => k_is)
    (case l2 => k_is)
    (case c2 => k_is)
    (case k2 => k_is)
    (case a3 => k_is)
    (case l3 => k_is)
    (case c3 => k_is)
    (case k3 => k_is)
    (case a4 => k_is)
    (case l4 => k_is)
    (case c4 => k_is)
    (case k4 => k_is)
    (case a5 => k_is)
    (case l5 => k_is)
    (case c5 => k_is)
    (case k5 => k_is)
    (case a6 => k_is)
    (case l6 => k_is)
    (case c6 => k_is)
    (case k6 => k_is)
    (case a7 => k_is)
    (case l7 => k_is)
    (case c7 => k_is)
    (case k7 => k_is)
    (case z_bool => k_is)
    (case z_enumerate => k_is)
    (case z_int => k_is)
    (case z_isinstance => k_is)
    (case z_len => k_is)
    (case z_list => k_is)
    (case z_range => k_is)
#print axioms PySem.Challenge.cw_rootroads_k06_left_over_holds
