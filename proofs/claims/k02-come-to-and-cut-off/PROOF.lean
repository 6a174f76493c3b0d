import PyProof.Rows.All
import Wide.All
import OpenK.AllK
import Wide.FinOn
import HandS.ForMost
import HandS.Evl
import HandS.IsInst
import HandS.Wide
import HandS.EndBits
import HandS.Deep
import HandS.More
import HandS.SortInts
import HandS.SortKw
import PySem.Challenge.RW_rootroads_k02_come_to_and_cut_off
set_option Elab.async false
set_option linter.all false
set_option maxRecDepth 100000
set_option maxHeartbeats 8000000
namespace RR
open PySem L2 Evl

/-! ### 1. Two heaps: B, what is known for good; H, what stands. -/
structure Stp (B H B' H' : Hp) : Prop where
  eb : Ex B B'
  eh : Ex H H'
  bh : Ex B' H'
  nw : ∀ b o, B' b = some o → B b = some o ∨ H b = none
theorem Stp.refl {B H : Hp} (x : Ex B H) : Stp B H B H := ⟨Ex.refl _, Ex.refl _, x, fun _ _ h => .inl h⟩
theorem Stp.trans {B H B1 H1 B2 H2 : Hp} (a : Stp B H B1 H1) (b : Stp B1 H1 B2 H2) : Stp B H B2 H2 :=
  ⟨a.eb.trans b.eb, a.eh.trans b.eh, b.bh, fun c o h => by
    rcases b.nw c o h with q | q
    · exact a.nw c o q
    · exact .inr (fresh_back a.eh q)⟩
theorem Stp.go {B H H1 : Hp} (x : Ex B H) (e : Ex H H1) : Stp B H B H1 := ⟨Ex.refl _, e, x.trans e, fun _ _ h => .inl h⟩
theorem Stp.goH {B0 H0 B H H1 : Hp} (s : Stp B0 H0 B H) (e : Ex H H1) : Stp B0 H0 B H1 := s.trans (Stp.go s.bh e)
theorem Stp.new {B H : Hp} (x : Ex B H) {p : Addr} {o : HO} (hp : H p = none) : Stp B H (upd B p o) (upd H p o) :=
  ⟨Ex.new (fresh_back x hp), Ex.new hp, fun a u h => by
    by_cases e : a = p
    · subst e
      rw [upd_same] at h ⊢
      exact h
    · rw [upd_ne e] at h ⊢
      exact x a u h, fun b u h => by
    by_cases e : b = p
    · subst e
      exact .inr hp
    · rw [upd_ne e] at h
      exact .inl h⟩
/-- the union of what is known -/
def jn (A B : Hp) : Hp := fun a => match A a with
  | some o => some o
  | none => B a
theorem jn_l {A B : Hp} : Ex A (jn A B) := fun a o h => by
  unfold jn
  rw [h]
theorem jn_h {A B H : Hp} (x : Ex A H) (y : Ex B H) : Ex (jn A B) H := fun a o h => by
  unfold jn at h
  cases e : A a with
  | some u =>
    rw [e] at h
    cases h
    exact x a _ e
  | none =>
    rw [e] at h
    exact y a _ h
theorem jn_r {A B H : Hp} (x : Ex A H) (y : Ex B H) : Ex B (jn A B) := fun a o h => by
  unfold jn
  cases e : A a with
  | some u =>
    have h1 := x a _ e
    rw [y a _ h] at h1
    exact h1.symm
  | none => exact h
/-- a step shown from less is a step from more -/
theorem Stp.join {B H B1 H1 B2 H2 H3 : Hp} (s : Stp B H B1 H1) (e : Ex H1 H2) (t : Stp B H2 B2 H3) : Stp B1 H2 (jn B1 B2) H3 :=
  ⟨jn_l, t.eh, jn_h ((s.bh.trans e).trans t.eh) t.bh, fun b o h => by
    unfold jn at h
    cases q : B1 b with
    | some u =>
      rw [q] at h
      cases h
      exact .inl rfl
    | none =>
      rw [q] at h
      rcases t.nw b o h with z | z
      · rw [s.eb b o z] at q
        cases q
      · exact .inr z⟩

/-- a thing of one's own, that changes: made behind H0, in no B -/
structure Cell (H0 B H : Hp) (p : Addr) (o : HO) : Prop where
  n : H0 p = none
  b : B p = none
  h : H p = some o
section
variable {B0 H0 B H B1 H1 : Hp} {p q : Addr} {o u v : HO}
theorem Cell.nb (c : Cell H0 B H p o) (s : Stp B H B1 H1) : B1 p = none := by
  cases e : B1 p with
  | none => rfl
  | some z =>
    rcases s.nw p z e with r | r
    · rw [c.b] at r
      cases r
    · rw [c.h] at r
      cases r
theorem Cell.up (c : Cell H0 B H p o) (s : Stp B H B1 H1) : Cell H0 B1 H1 p o := ⟨c.n, c.nb s, s.eh _ _ c.h⟩
theorem Cell.go (c : Cell H0 B H p o) (e : Ex H H1) : Cell H0 B H1 p o := ⟨c.n, c.b, e _ _ c.h⟩
theorem Cell.mut (c : Cell H0 B H p o) (s : Stp B0 H0 B H) : Stp B0 H0 B (upd H p u) :=
  ⟨s.eb, Ex.mut s.eh c.n, Ex.mut s.bh c.b, s.nw⟩
theorem Cell.same (c : Cell H0 B H p o) : Cell H0 B (upd H p u) p u := ⟨c.n, c.b, upd_same⟩
theorem Cell.other (c : Cell H0 B H p o) (ne : p ≠ q) : Cell H0 B (upd H q u) p o := ⟨c.n, c.b, by rw [upd_ne ne]; exact c.h⟩
theorem Cell.ne (c : Cell H0 B H p o) (d : Cell H0 B H q u) (h : o ≠ u) : p ≠ q := ne_of c.h d.h h
theorem Cell.neN (c : Cell H0 B H p o) (d : H q = none) : p ≠ q := ne_of_none c.h d
end

/-! ### 2. What a value stands for -/
structure Enc (α : Type) where
  R : Hp → V → α → Prop
  up : ∀ {H H' : Hp} {v : V} {x : α}, Ex H H' → R H v x → R H' v x
section
variable {α β γ : Type}
theorem pmap {R S : V → α → Prop} (h : ∀ v x, R v x → S v x) : ∀ {vs : List V} {xs : List α}, Paired R vs xs → Paired S vs xs
  | _, _, .nil => .nil
  | _, _, .cons r t => .cons (h _ _ r) (pmap h t)
theorem Enc.ups (E : Enc α) {H H' : Hp} (e : Ex H H') {vs : List V} {xs : List α} (h : Paired (E.R H) vs xs) : Paired (E.R H') vs xs := pmap (fun _ _ q => E.up e q) h
theorem pget {R : V → α → Prop} : ∀ {vs : List V} {xs : List α} {i : Nat} {x : α}, Paired R vs xs → xs[i]? = some x → ∃ v, vs[i]? = some v ∧ R v x
  | _, _, i, x, .nil, h => by simp at h
  | _, _, 0, x, .cons r t, h => by
    simp only [List.getElem?_cons_zero, Option.some.injEq] at h
    subst h
    exact ⟨_, rfl, r⟩
  | _, _, i + 1, x, .cons r t, h => by
    simp only [List.getElem?_cons_succ] at h ⊢
    exact pget t h
theorem pgetV {R : V → α → Prop} {vs : List V} {xs : List α} {i : Nat} {v : V} (p : Paired R vs xs) (h : vs[i]? = some v) : ∃ x, xs[i]? = some x ∧ R v x := by
  induction p generalizing i with
  | nil => simp at h
  | cons r t ih =>
    cases i with
    | zero =>
      simp only [List.getElem?_cons_zero, Option.some.injEq] at h
      subst h
      exact ⟨_, rfl, r⟩
    | succ i =>
      simp only [List.getElem?_cons_succ] at h ⊢
      exact ih h
theorem papp {R : V → α → Prop} : ∀ {vs ws : List V} {xs ys : List α}, Paired R vs xs → Paired R ws ys → Paired R (vs ++ ws) (xs ++ ys)
  | _, _, _, _, .nil, h => h
  | _, _, _, _, .cons r t, h => .cons r (papp t h)
theorem pdrop {R : V → α → Prop} : ∀ (n : Nat) {vs : List V} {xs : List α}, Paired R vs xs → Paired R (vs.drop n) (xs.drop n)
  | 0, _, _, h => h
  | n + 1, _, _, .nil => .nil
  | n + 1, _, _, .cons r t => pdrop n t
theorem ptake {R : V → α → Prop} : ∀ (n : Nat) {vs : List V} {xs : List α}, Paired R vs xs → Paired R (vs.take n) (xs.take n)
  | 0, _, _, h => .nil
  | n + 1, _, _, .nil => .nil
  | n + 1, _, _, .cons r t => .cons r (ptake n t)
theorem prev {R : V → α → Prop} : ∀ {vs : List V} {xs : List α}, Paired R vs xs → Paired R vs.reverse xs.reverse
  | _, _, .nil => .nil
  | _, _, .cons r t => by
    rw [List.reverse_cons, List.reverse_cons]
    exact papp (prev t) (.cons r .nil)
theorem pset {R : V → α → Prop} {v : V} {x : α} (r : R v x) : ∀ (i : Nat) {vs : List V} {xs : List α}, Paired R vs xs → Paired R (vs.set i v) (xs.set i x)
  | _, _, _, .nil => .nil
  | 0, _, _, .cons _ t => .cons r t
  | i + 1, _, _, .cons q t => .cons q (pset r i t)

def eI : Enc Int := ⟨fun _ v n => v = .int n, fun _ h => h⟩
def eB : Enc Bool := ⟨fun _ v b => v = .bl b, fun _ h => h⟩
def oV : Option Int → V
  | none => .non
  | some n => .int n
def eO : Enc (Option Int) := ⟨fun _ v o => v = oV o, fun _ h => h⟩
/-- any value, by itself -/
def eV : Enc V := ⟨fun _ v w => v = w, fun _ h => h⟩
def eL (E : Enc α) : Enc (List α) := ⟨fun H v xs => ∃ a vs, v = .ref a ∧ H a = some (.lst vs) ∧ Paired (E.R H) vs xs, fun e ⟨a, vs, h1, h2, h3⟩ => ⟨a, vs, h1, e _ _ h2, E.ups e h3⟩⟩
def eT (E : Enc α) : Enc (List α) := ⟨fun H v xs => ∃ a vs, v = .ref a ∧ H a = some (.tup vs) ∧ Paired (E.R H) vs xs, fun e ⟨a, vs, h1, h2, h3⟩ => ⟨a, vs, h1, e _ _ h2, E.ups e h3⟩⟩
def e2 (E : Enc α) (F : Enc β) : Enc (α × β) := ⟨fun H v x => ∃ a u w, v = .ref a ∧ H a = some (.tup [u, w]) ∧ E.R H u x.1 ∧ F.R H w x.2, fun e ⟨a, u, w, h1, h2, h3, h4⟩ => ⟨a, u, w, h1, e _ _ h2, E.up e h3, F.up e h4⟩⟩
def e3 (E : Enc α) (F : Enc β) (G : Enc γ) : Enc (α × β × γ) := ⟨fun H v x => ∃ a u w z, v = .ref a ∧ H a = some (.tup [u, w, z]) ∧ E.R H u x.1 ∧ F.R H w x.2.1 ∧ G.R H z x.2.2,
  fun e ⟨a, u, w, z, h1, h2, h3, h4, h5⟩ => ⟨a, u, w, z, h1, e _ _ h2, E.up e h3, F.up e h4, G.up e h5⟩⟩
/-- a tuple that begins with two ints -/
def eH : Enc (Int × Int) := ⟨fun H v x => ∃ a r, v = .ref a ∧ H a = some (.tup (.int x.1 :: .int x.2 :: r)), fun e ⟨a, r, h1, h2⟩ => ⟨a, r, h1, e _ _ h2⟩⟩
/-- a dict by its int keys -/
def eD : Enc (List Int) := ⟨fun H v ks => ∃ a kvs, v = .ref a ∧ H a = some (.dK kvs) ∧ kvs.map (·.1) = ks.map Sum.inl, fun e ⟨a, kvs, h1, h2, h3⟩ => ⟨a, kvs, h1, e _ _ h2, h3⟩⟩
abbrev Road := Int × Int × Int
abbrev eR : Enc Road := e3 eI eI eI
theorem pI {H : Hp} : ∀ {vs : List V} {ns : List Int}, Paired (eI.R H) vs ns → vs = ns.map V.int
  | _, _, .nil => rfl
  | _, _, .cons r t => by
    rw [pI t, show _ = V.int _ from r]
    rfl
theorem pI' {H : Hp} : ∀ (ns : List Int), Paired (eI.R H) (ns.map V.int) ns
  | [] => .nil
  | _ :: r => .cons rfl (pI' r)
theorem pO {H : Hp} : ∀ {vs : List V} {ns : List (Option Int)}, Paired (eO.R H) vs ns → vs = ns.map oV
  | _, _, .nil => rfl
  | _, _, .cons r t => by
    rw [pO t, show _ = oV _ from r]
    rfl
theorem pO' {H : Hp} : ∀ (ns : List (Option Int)), Paired (eO.R H) (ns.map oV) ns
  | [] => .nil
  | _ :: r => .cons rfl (pO' r)
theorem eLI {H : Hp} {v : V} {ns : List Int} (h : (eL eI).R H v ns) : ∃ a, v = .ref a ∧ H a = some (.lst (ns.map V.int)) := by
  obtain ⟨a, vs, h1, h2, h3⟩ := h
  rw [pI h3] at h2
  exact ⟨a, h1, h2⟩
theorem eTI {H : Hp} {v : V} {ns : List Int} (h : (eT eI).R H v ns) : ∃ a, v = .ref a ∧ H a = some (.tup (ns.map V.int)) := by
  obtain ⟨a, vs, h1, h2, h3⟩ := h
  rw [pI h3] at h2
  exact ⟨a, h1, h2⟩
theorem eR_H {H : Hp} {v : V} {r : Road} (h : eR.R H v r) : eH.R H v (r.1, r.2.1) := by
  obtain ⟨a, u, w, z, h1, h2, h3, h4, h5⟩ := h
  cases h3
  cases h4
  exact ⟨a, [z], h1, h2⟩
theorem eRs_H {H : Hp} {v : V} {rs : List Road} (h : (eL eR).R H v rs) : (eL eH).R H v (rs.map fun r => (r.1, r.2.1)) := by
  obtain ⟨a, vs, h1, h2, h3⟩ := h
  refine ⟨a, vs, h1, h2, ?_⟩
  clear h1 h2
  induction h3 with
  | nil => exact .nil
  | cons r t ih => exact .cons (eR_H r) ih
end

/-! ### 3. What an expression tells: EvS (a value that stands for some x with S x), EvM (a new list of one's own) -/
section
variable {α β γ δ ε : Type} {E : Enc α} {F : Enc β} {G : Enc γ}
def EvS (E : Enc α) (te : TE) (σ : L2.St) (B H : Hp) (S : α → Prop) : Prop := ∀ H1, Ex H H1 → ∀ Q : VK, (∀ v x B2 H2, Stp B H1 B2 H2 → S x → E.R B2 v x → Q v H2) → te σ H1 Q
abbrev EvE (E : Enc α) (te : TE) (σ : L2.St) (B H : Hp) (x : α) : Prop := EvS E te σ B H (fun y => y = x)
/-- a new list, known to none: it may be changed -/
def EvM (E : Enc α) (te : TE) (σ : L2.St) (B H : Hp) (S : List α → Prop) : Prop := ∀ H1, Ex H H1 → ∀ Q : VK, (∀ p vs xs B2 H2, Stp B H1 B2 H2 → H1 p = none → B2 p = none → H2 p = some (.lst vs) → S xs → Paired (E.R B2) vs xs → Q (.ref p) H2) → te σ H1 Q
variable {te ta tb tc : TE} {tt : TT} {σ : L2.St} {B H B1 H1 : Hp} {S : α → Prop} {T : β → Prop} {K : PySem.W.Frag}
theorem EvS.up (h : EvS E te σ B H S) (s : Stp B H B1 H1) : EvS E te σ B1 H1 S := fun H2 e Q k =>
  h H2 (s.eh.trans e) Q fun v x B2 H3 t hS hR => k v x (jn B1 B2) H3 (s.join e t) hS (E.up (jn_r ((s.bh.trans e).trans t.eh) t.bh) hR)
theorem EvM.up {S : List α → Prop} (h : EvM E te σ B H S) (s : Stp B H B1 H1) : EvM E te σ B1 H1 S := fun H2 e Q k =>
  h H2 (s.eh.trans e) Q fun p vs xs B2 H3 t hp bp hl hS hR => k p vs xs (jn B1 B2) H3 (s.join e t) hp (by
    have q : B1 p = none := fresh_back (s.bh.trans e) hp
    unfold jn
    rw [q]
    exact bp) hl hS (E.ups (jn_r ((s.bh.trans e).trans t.eh) t.bh) hR)
theorem EvM.s {S : List α → Prop} (h : EvM E te σ B H S) : EvS (eL E) te σ B H S := fun H2 e Q k =>
  h H2 e Q fun p vs xs B2 H3 t hp bp hl hS hR => k (.ref p) xs (upd B2 p (.lst vs)) H3 ⟨t.eb.trans (Ex.new bp), t.eh, fun a u q => by
    by_cases z : a = p
    · subst z
      rw [upd_same] at q
      cases q
      exact hl
    · rw [upd_ne z] at q
      exact t.bh a u q, fun a u q => by
    by_cases z : a = p
    · subst z
      exact .inr hp
    · rw [upd_ne z] at q
      exact t.nw a u q⟩ hS ⟨p, vs, rfl, upd_same, E.ups (Ex.new bp) hR⟩
theorem EvS.imp {S' : α → Prop} (h : EvS E te σ B H S) (i : ∀ x, S x → S' x) : EvS E te σ B H S' := fun H1 e Q k => h H1 e Q fun v x B2 H2 t hS hR => k v x B2 H2 t (i x hS) hR
theorem EvM.imp {S S' : List α → Prop} (h : EvM E te σ B H S) (i : ∀ x, S x → S' x) : EvM E te σ B H S' := fun H1 e Q k => h H1 e Q fun p vs xs B2 H2 t a b c hS hR => k p vs xs B2 H2 t a b c (i xs hS) hR
theorem EvE.to {x y : α} (h : EvE E te σ B H x) (e : x = y) : EvE E te σ B H y := e ▸ h
theorem EvS.conv {T : α → Prop} {E' : Enc β} {T' : β → Prop} (h : EvS E te σ B H T) (i : ∀ B v x, T x → E.R B v x → ∃ y, T' y ∧ E'.R B v y) : EvS E' te σ B H T' := fun H1 e Q k =>
  h H1 e Q fun v x B2 H2 t hS hR => by
    obtain ⟨y, a, b⟩ := i B2 v x hS hR
    exact k v y B2 H2 t a b
/-- scalars -/
theorem es_ev {v : V} {x : α} (x0 : Ex B H) (h : Ev te σ H v) (r : E.R B v x) : EvE E te σ B H x := fun H1 e Q k => h H1 e Q fun H2 e2 => k v x B H2 (Stp.go (x0.trans e) e2) rfl r
theorem es_evI {n : Int} (x0 : Ex B H) (h : Ev te σ H (.int n)) : EvE eI te σ B H n := es_ev x0 h rfl
theorem es_evB {b : Bool} (x0 : Ex B H) (h : Ev te σ H (.bl b)) : EvE eB te σ B H b := es_ev x0 h rfl
theorem ev_sI {n : Int} (h : EvE eI te σ B H n) : Ev te σ H (.int n) := fun H1 e Q k => h H1 e Q fun v x B2 H2 t hS hR => by
  cases hS
  cases hR
  exact k H2 t.eh
theorem ev_sB {b : Bool} (h : EvE eB te σ B H b) : Ev te σ H (.bl b) := fun H1 e Q k => h H1 e Q fun v x B2 H2 t hS hR => by
  cases hS
  cases hR
  exact k H2 t.eh
theorem ev_sO {o : Option Int} (h : EvE eO te σ B H o) : Ev te σ H (oV o) := fun H1 e Q k => h H1 e Q fun v x B2 H2 t hS hR => by
  cases hS
  cases hR
  exact k H2 t.eh
theorem et_sT {b : Bool} (h : EvE eB te σ B H b) : EvT (tTest te) σ H b := et_test (ev_sB h)
theorem et_sB {b : Bool} (h : EvE eB te σ B H b) : EvT (tB te) σ H b := et_B (ev_sB h)

theorem es_var {i : Nat} {v : V} {x : α} (x0 : Ex B H) (h : σ[i]? = some (some v)) (r : E.R B v x) : EvE E (tVar i) σ B H x := es_ev x0 (ev_var h) r
theorem es_varI {i : Nat} {n : Int} (x0 : Ex B H) (h : σ[i]? = some (some (.int n))) : EvE eI (tVar i) σ B H n := es_ev x0 (ev_var h) rfl
theorem es_int {n : Int} (x0 : Ex B H) : EvE eI (tC (.int n)) σ B H n := es_ev x0 ev_c rfl
theorem es_bl {b : Bool} (x0 : Ex B H) : EvE eB (tC (.bl b)) σ B H b := es_ev x0 ev_c rfl
theorem es_non (x0 : Ex B H) : EvE eO (tC .non) σ B H none := es_ev x0 ev_c rfl

/-- two parts, then an operation on what they stand for -/
theorem es_opG {r : R2} {x : α} {y : β} {P : γ → Prop} (x0 : Ex B H) (ha : EvE E ta σ B H x) (hb : EvE F tb σ B H y)
    (hr : ∀ v w B2 H2, Ex B2 H2 → E.R B2 v x → F.R B2 w y → ∀ Q : VK, (∀ z c B3 H3, Stp B2 H2 B3 H3 → P c → G.R B3 z c → Q z H3) → r v w H2 Q) : EvS G (tOp r ta tb) σ B H P := fun H1 e Q k =>
  ha H1 e _ fun v x' B2 H2 t hx hR => by
    cases hx
    exact hb.up ((Stp.go x0 e).trans t) H2 (Ex.refl _) _ fun w y' B3 H3 t2 hy hR2 => by
      cases hy
      exact hr v w B3 H3 t2.bh (E.up t2.eb hR) hR2 Q fun z c B4 H4 t3 hc hz => k z c B4 H4 ((t.trans t2).trans t3) hc hz
theorem es_op {r : R2} {x : α} {y : β} {c : γ} (x0 : Ex B H) (ha : EvE E ta σ B H x) (hb : EvE F tb σ B H y)
    (hr : ∀ v w B2 H2, Ex B2 H2 → E.R B2 v x → F.R B2 w y → ∃ z, G.R B2 z c ∧ ∀ Q : VK, Q z H2 → r v w H2 Q) : EvE G (tOp r ta tb) σ B H c :=
  es_opG x0 ha hb fun v w B2 H2 x2 hv hw Q k => by
    obtain ⟨z, hz, q⟩ := hr v w B2 H2 x2 hv hw
    exact q Q (k z c B2 H2 (Stp.refl x2) rfl hz)
theorem es_opI {g : Int → Int → Int} {x y : Int} (x0 : Ex B H) (ha : EvE eI ta σ B H x) (hb : EvE eI tb σ B H y) : EvE eI (tOp (rI0 fun i j => .int (g i j)) ta tb) σ B H (g x y) :=
  es_op x0 ha hb fun v w B2 H2 _ hv hw => ⟨_, rfl, fun Q q => ⟨x, y, hv, hw, q⟩⟩
theorem es_opB {g : Int → Int → Bool} {x y : Int} (x0 : Ex B H) (ha : EvE eI ta σ B H x) (hb : EvE eI tb σ B H y) : EvE eB (tOp (rI0 fun i j => .bl (g i j)) ta tb) σ B H (g x y) :=
  es_op x0 ha hb fun v w B2 H2 _ hv hw => ⟨_, rfl, fun Q q => ⟨x, y, hv, hw, q⟩⟩
theorem es_opC {C : Int → Int → Prop} {g : Int → Int → Int} {x y : Int} (x0 : Ex B H) (ha : EvE eI ta σ B H x) (hb : EvE eI tb σ B H y) (hc : C x y) : EvE eI (tOp (rI C fun i j => .int (g i j)) ta tb) σ B H (g x y) :=
  es_op x0 ha hb fun v w B2 H2 _ hv hw => ⟨_, rfl, fun Q q => ⟨x, y, hv, hw, hc, q⟩⟩
theorem es_neg {x : Int} (ha : EvE eI ta σ B H x) : EvE eI (tUn (rU fun i => .int (-i)) ta) σ B H (-x) := fun H1 e Q k =>
  ha H1 e _ fun v x' B2 H2 t hx hR => by
    cases hx
    exact ⟨x, hR, k _ _ B2 H2 t rfl rfl⟩
theorem dec_int (x y : Int) : decide (V.int x = V.int y) = decide (x = y) := by
  by_cases h : x = y
  · subst h
    simp
  · rw [decide_eq_false h, decide_eq_false fun q => h (V.int.inj q)]
theorem dec_bl (x y : Bool) : decide (V.bl x = V.bl y) = decide (x = y) := by
  by_cases h : x = y
  · subst h
    simp
  · rw [decide_eq_false h, decide_eq_false fun q => h (V.bl.inj q)]
theorem es_eqI {x y : Int} (x0 : Ex B H) (ha : EvE eI ta σ B H x) (hb : EvE eI tb σ B H y) : EvE eB (tOp rEq ta tb) σ B H (decide (x = y)) :=
  es_op x0 ha hb fun v w B2 H2 _ hv hw => ⟨_, rfl, fun Q q => by
    cases hv
    cases hw
    exact ⟨rfl, by rw [dec_int]; exact q⟩⟩
theorem es_neI {x y : Int} (x0 : Ex B H) (ha : EvE eI ta σ B H x) (hb : EvE eI tb σ B H y) : EvE eB (tOp rNe ta tb) σ B H (!decide (x = y)) :=
  es_op x0 ha hb fun v w B2 H2 _ hv hw => ⟨_, rfl, fun Q q => by
    cases hv
    cases hw
    exact ⟨rfl, by rw [dec_int]; exact q⟩⟩
theorem es_eqB {x y : Bool} (x0 : Ex B H) (ha : EvE eB ta σ B H x) (hb : EvE eB tb σ B H y) : EvE eB (tOp rEq ta tb) σ B H (decide (x = y)) :=
  es_op x0 ha hb fun v w B2 H2 _ hv hw => ⟨_, rfl, fun Q q => by
    cases hv
    cases hw
    exact ⟨rfl, by rw [dec_bl]; exact q⟩⟩
theorem es_neB {x y : Bool} (x0 : Ex B H) (ha : EvE eB ta σ B H x) (hb : EvE eB tb σ B H y) : EvE eB (tOp rNe ta tb) σ B H (!decide (x = y)) :=
  es_op x0 ha hb fun v w B2 H2 _ hv hw => ⟨_, rfl, fun Q q => by
    cases hv
    cases hw
    exact ⟨rfl, by rw [dec_bl]; exact q⟩⟩
theorem non_oV (o : Option Int) : decide (oV o = V.non) = o.isNone := by
  cases o with
  | none => rfl
  | some n => exact decide_eq_false fun q => nomatch q
theorem es_isNO {o : Option Int} (x0 : Ex B H) (ha : EvE eO ta σ B H o) : EvE eB (tOp (fun x y H Q => y = V.non ∧ Q (.bl (decide (x = .non))) H) ta (tC .non)) σ B H o.isNone :=
  es_op x0 ha (es_non x0) fun v w B2 H2 _ hv hw => ⟨_, rfl, fun Q q => by
    cases hv
    cases hw
    exact ⟨rfl, by rw [non_oV]; exact q⟩⟩
theorem es_notNO {o : Option Int} (x0 : Ex B H) (ha : EvE eO ta σ B H o) : EvE eB (tOp (fun x y H Q => y = V.non ∧ Q (.bl (!decide (x = .non))) H) ta (tC .non)) σ B H (!o.isNone) :=
  es_op x0 ha (es_non x0) fun v w B2 H2 _ hv hw => ⟨_, rfl, fun Q q => by
    cases hv
    cases hw
    exact ⟨rfl, by rw [non_oV]; exact q⟩⟩

/-! chains a < b < c -/
theorem es_chain {r r' : R2} {x : α} {y : β} {z : γ} {b1 b2 : Bool} (x0 : Ex B H) (ha : EvE E ta σ B H x) (hb : EvE F tb σ B H y) (hc : EvE G tc σ B H z)
    (hr : ∀ v w B2 H2, E.R B2 v x → F.R B2 w y → ∀ Q : VK, Q (.bl b1) H2 → r v w H2 Q) (hr' : ∀ v w B2 H2, F.R B2 v y → G.R B2 w z → ∀ Q : VK, Q (.bl b2) H2 → r' v w H2 Q) :
    EvE eB (tChain r r' ta tb tc) σ B H (b1 && b2) := fun H1 e Q k =>
  ha H1 e _ fun v x' B2 H2 t hx hR => by
    cases hx
    exact hb.up ((Stp.go x0 e).trans t) H2 (Ex.refl _) _ fun w y' B3 H3 t2 hy hR2 => by
      cases hy
      refine hr v w B3 H3 (E.up t2.eb hR) hR2 _ ⟨b1, rfl, ?_⟩
      cases b1 with
      | false => exact iteF (k _ _ B3 H3 (t.trans t2) rfl rfl)
      | true =>
        refine iteT (hc.up (((Stp.go x0 e).trans t).trans t2) H3 (Ex.refl _) _ fun w2 z' B4 H4 t3 hz hR3 => ?_)
        cases hz
        exact hr' w w2 B4 H4 (F.up t3.eb hR2) hR3 _ (k _ _ B4 H4 ((t.trans t2).trans t3) rfl rfl)

/-! ### places of lists and tuples -/
theorem atI_of {ξ : Type} {xs : List ξ} {i : Int} {x : ξ} (h0 : 0 ≤ i) (h : xs[i.toNat]? = some x) : atI xs i = some x := by
  have e : ((i.toNat : Nat) : Int) = i := Int.toNat_of_nonneg h0
  rw [← e]
  exact atI_nat h
theorem es_ixL {xs : List α} {i : Int} {x : α} (x0 : Ex B H) (ha : EvE (eL E) ta σ B H xs) (hb : EvE eI tb σ B H i) (h0 : 0 ≤ i) (hx : xs[i.toNat]? = some x) : EvE E (tOp (rIxL K) ta tb) σ B H x :=
  es_op x0 ha hb fun v w B2 H2 x2 hv hw => by
    obtain ⟨a, vs, h1, h2, h3⟩ := hv
    obtain ⟨u, h4, h5⟩ := pget h3 hx
    exact ⟨u, h5, fun Q q => ⟨a, vs, i, u, h1, hw, SqL.of (x2 _ _ h2), atI_of h0 h4, q⟩⟩
theorem es_ixT {xs : List α} {i : Int} {x : α} (x0 : Ex B H) (ha : EvE (eT E) ta σ B H xs) (hb : EvE eI tb σ B H i) (h0 : 0 ≤ i) (hx : xs[i.toNat]? = some x) : EvE E (tOp (rIxT K) ta tb) σ B H x :=
  es_op x0 ha hb fun v w B2 H2 x2 hv hw => by
    obtain ⟨a, vs, h1, h2, h3⟩ := hv
    obtain ⟨u, h4, h5⟩ := pget h3 hx
    exact ⟨u, h5, fun Q q => ⟨a, vs, i, u, h1, hw, SqT.of (x2 _ _ h2), atI_of h0 h4, q⟩⟩
theorem es_tix {E' : Enc δ} {t : δ} {i : Nat} {x : α} (x0 : Ex B H) (ha : EvE E' ta σ B H t) (hx : ∀ B2 v, E'.R B2 v t → ∃ a us u, v = .ref a ∧ B2 a = some (.tup us) ∧ us[i]? = some u ∧ E.R B2 u x) : EvE E (tOp (rIxT K) ta (tC (.int (i : Int)))) σ B H x :=
  es_op x0 ha (es_int x0) fun v w B2 H2 x2 hv hw => by
    obtain ⟨a, us, u, h1, h2, h3, h4⟩ := hx B2 v hv
    exact ⟨u, h4, fun Q q => ⟨a, us, (i : Int), u, h1, hw, SqT.of (x2 _ _ h2), atI_nat h3, q⟩⟩
theorem es_20 {t : α × β} (x0 : Ex B H) (ha : EvE (e2 E F) ta σ B H t) : EvE E (tOp (rIxT K) ta (tC (.int 0))) σ B H t.1 := es_tix (i := 0) x0 ha fun B2 v ⟨a, u, w, h1, h2, h3, h4⟩ => ⟨a, _, u, h1, h2, rfl, h3⟩
theorem es_21 {t : α × β} (x0 : Ex B H) (ha : EvE (e2 E F) ta σ B H t) : EvE F (tOp (rIxT K) ta (tC (.int 1))) σ B H t.2 := es_tix (i := 1) x0 ha fun B2 v ⟨a, u, w, h1, h2, h3, h4⟩ => ⟨a, _, w, h1, h2, rfl, h4⟩
theorem es_30 {t : α × β × γ} (x0 : Ex B H) (ha : EvE (e3 E F G) ta σ B H t) : EvE E (tOp (rIxT K) ta (tC (.int 0))) σ B H t.1 := es_tix (i := 0) x0 ha fun B2 v ⟨a, u, w, z, h1, h2, h3, h4, h5⟩ => ⟨a, _, u, h1, h2, rfl, h3⟩
theorem es_31 {t : α × β × γ} (x0 : Ex B H) (ha : EvE (e3 E F G) ta σ B H t) : EvE F (tOp (rIxT K) ta (tC (.int 1))) σ B H t.2.1 := es_tix (i := 1) x0 ha fun B2 v ⟨a, u, w, z, h1, h2, h3, h4, h5⟩ => ⟨a, _, w, h1, h2, rfl, h4⟩
theorem es_32 {t : α × β × γ} (x0 : Ex B H) (ha : EvE (e3 E F G) ta σ B H t) : EvE G (tOp (rIxT K) ta (tC (.int 2))) σ B H t.2.2 := es_tix (i := 2) x0 ha fun B2 v ⟨a, u, w, z, h1, h2, h3, h4, h5⟩ => ⟨a, _, z, h1, h2, rfl, h5⟩
theorem es_H0 {t : Int × Int} (x0 : Ex B H) (ha : EvE eH ta σ B H t) : EvE eI (tOp (rIxT K) ta (tC (.int 0))) σ B H t.1 := es_tix (i := 0) x0 ha fun B2 v ⟨a, r, h1, h2⟩ => ⟨a, _, _, h1, h2, rfl, rfl⟩
theorem es_H1 {t : Int × Int} (x0 : Ex B H) (ha : EvE eH ta σ B H t) : EvE eI (tOp (rIxT K) ta (tC (.int 1))) σ B H t.2 := es_tix (i := 1) x0 ha fun B2 v ⟨a, r, h1, h2⟩ => ⟨a, _, _, h1, h2, rfl, rfl⟩

/-! ### in -/
theorem eqV_int (x y : Int) : eqV (V.int x) (V.int y) = decide (x = y) := by
  unfold eqV
  first
    | rfl
    | (by_cases h : x = y <;> simp [h])
theorem inV_ints (x : Int) : ∀ ns : List Int, inV (V.int x) (ns.map V.int) = decide (x ∈ ns)
  | [] => by simp [inV]
  | n :: r => by
    have ih := inV_ints x r
    unfold inV at ih ⊢
    rw [List.map_cons, List.any_cons, ih, eqV_int]
    by_cases h : n = x
    · subst h
      simp
    · have h' : ¬ x = n := fun q => h q.symm
      simp [h, h']
theorem flat_ints : ∀ ns : List Int, (ns.map V.int).all flatV = true
  | [] => rfl
  | _ :: r => by
    rw [List.map_cons, List.all_cons, flat_ints r]
    rfl
theorem es_inT {x : Int} {ns : List Int} (x0 : Ex B H) (ha : EvE eI ta σ B H x) (hb : EvE (eT eI) tb σ B H ns) : EvE eB (tOp (rIn K false) ta tb) σ B H (decide (x ∈ ns)) :=
  es_op x0 ha hb fun v w B2 H2 x2 hv hw => ⟨_, rfl, fun Q q => by
    cases hv
    obtain ⟨a, h1, h2⟩ := eTI hw
    exact ⟨a, _, h1, .inr (SqT.of (x2 _ _ h2)), rfl, flat_ints ns, by rw [inV_ints]; exact q⟩⟩
theorem es_ninT {x : Int} {ns : List Int} (x0 : Ex B H) (ha : EvE eI ta σ B H x) (hb : EvE (eT eI) tb σ B H ns) : EvE eB (tOp (rIn K true) ta tb) σ B H (!decide (x ∈ ns)) :=
  es_op x0 ha hb fun v w B2 H2 x2 hv hw => ⟨_, rfl, fun Q q => by
    cases hv
    obtain ⟨a, h1, h2⟩ := eTI hw
    exact ⟨a, _, h1, .inr (SqT.of (x2 _ _ h2)), rfl, flat_ints ns, by rw [inV_ints]; exact q⟩⟩
theorem es_inL {x : Int} {ns : List Int} (x0 : Ex B H) (ha : EvE eI ta σ B H x) (hb : EvE (eL eI) tb σ B H ns) : EvE eB (tOp (rIn K false) ta tb) σ B H (decide (x ∈ ns)) :=
  es_op x0 ha hb fun v w B2 H2 x2 hv hw => ⟨_, rfl, fun Q q => by
    cases hv
    obtain ⟨a, h1, h2⟩ := eLI hw
    exact ⟨a, _, h1, .inl (SqL.of (x2 _ _ h2)), rfl, flat_ints ns, by rw [inV_ints]; exact q⟩⟩
theorem es_ninL {x : Int} {ns : List Int} (x0 : Ex B H) (ha : EvE eI ta σ B H x) (hb : EvE (eL eI) tb σ B H ns) : EvE eB (tOp (rIn K true) ta tb) σ B H (!decide (x ∈ ns)) :=
  es_op x0 ha hb fun v w B2 H2 x2 hv hw => ⟨_, rfl, fun Q q => by
    cases hv
    obtain ⟨a, h1, h2⟩ := eLI hw
    exact ⟨a, _, h1, .inl (SqL.of (x2 _ _ h2)), rfl, flat_ints ns, by rw [inV_ints]; exact q⟩⟩
/-- a dict's keys -/
theorem val_keys {x : Int} : ∀ {kvs : List (Key × V)} {ks : List Int}, kvs.map (·.1) = ks.map Sum.inl → (valV kvs (Sum.inl x)).isSome = decide (x ∈ ks)
  | [], [], _ => rfl
  | [], _ :: _, h => by cases h
  | _ :: _, [], h => by cases h
  | p :: r, k :: ks, h => by
    rw [List.map_cons, List.map_cons] at h
    obtain ⟨h1, h2⟩ := List.cons.inj h
    have ih := val_keys (x := x) h2
    by_cases e : k = x
    · subst e
      rw [valV_pos h1]
      simp
    · have e' : ¬ p.1 = Sum.inl x := fun q => e (Sum.inl.inj (h1.symm.trans q))
      have e2 : ¬ x = k := fun q => e q.symm
      rw [valV_neg e', ih]
      simp [e2]
theorem es_din {x : Int} {ks : List Int} (x0 : Ex B H) (ha : EvE eI ta σ B H x) (hb : EvE eD tb σ B H ks) : EvE eB (tDIn ta tb) σ B H (decide (x ∈ ks)) := fun H1 e Q k =>
  ha H1 e _ fun v x' B2 H2 t hx hR => by
    cases hx
    exact hb.up ((Stp.go x0 e).trans t) H2 (Ex.refl _) _ fun w y' B3 H3 t2 hy hR2 => by
      cases hy
      cases hR
      obtain ⟨a, kvs, h1, h2, h3⟩ := hR2
      exact ⟨a, _, h1, DGet.k (k := Sum.inl x) (t2.bh _ _ h2), by rw [val_keys h3]; exact k _ _ B3 H3 (t.trans t2) rfl rfl⟩
theorem es_dnotin {x : Int} {ks : List Int} (x0 : Ex B H) (ha : EvE eI ta σ B H x) (hb : EvE eD tb σ B H ks) : EvE eB (tDNotIn ta tb) σ B H (!decide (x ∈ ks)) := fun H1 e Q k =>
  ha H1 e _ fun v x' B2 H2 t hx hR => by
    cases hx
    exact hb.up ((Stp.go x0 e).trans t) H2 (Ex.refl _) _ fun w y' B3 H3 t2 hy hR2 => by
      cases hy
      cases hR
      obtain ⟨a, kvs, h1, h2, h3⟩ := hR2
      exact ⟨a, _, h1, DGet.k (k := Sum.inl x) (t2.bh _ _ h2), by rw [val_keys h3]; exact k _ _ B3 H3 (t.trans t2) rfl rfl⟩

/-! ### arguments, displays -/
def aN : Hp → List V → Prop := fun _ vs => vs = []
def aC (E : Enc α) (S : α → Prop) (A : Hp → List V → Prop) : Hp → List V → Prop := fun B vs => ∃ v x r, vs = v :: r ∧ S x ∧ E.R B v x ∧ A B r
def EvAr (ta : TA) (σ : L2.St) (B H : Hp) (A : Hp → List V → Prop) : Prop := ∀ H1, Ex H H1 → ∀ Q : List V → Hp → Prop, (∀ vs B2 H2, Stp B H1 B2 H2 → A B2 vs → Q vs H2) → ta σ H1 Q
def MonoA (A : Hp → List V → Prop) : Prop := ∀ (B B' : Hp) (vs : List V), Ex B B' → A B vs → A B' vs
theorem mono_aN : MonoA aN := fun _ _ _ _ h => h
theorem mono_aC {A : Hp → List V → Prop} (m : MonoA A) : MonoA (aC E S A) := fun _ _ _ e ⟨v, x, r, h1, h2, h3, h4⟩ => ⟨v, x, r, h1, h2, E.up e h3, m _ _ _ e h4⟩
variable {ar : TA} {A : Hp → List V → Prop}
theorem ea_n (x0 : Ex B H) : EvAr tNil σ B H aN := fun H1 e Q k => k [] B H1 (Stp.refl (x0.trans e)) rfl
theorem ea_c (x0 : Ex B H) (m : MonoA A) (h : EvS E te σ B H S) (hr : EvAr ar σ B H A) : EvAr (tCons te ar) σ B H (aC E S A) := fun H1 e Q k =>
  h H1 e _ fun v x B2 H2 t hS hR => by
    have s := (Stp.go x0 e).trans t
    exact hr H2 s.eh _ fun vs B3 H3 t2 hA => k (v :: vs) (jn B2 B3) H3 (t.trans (s.join (Ex.refl _) t2)) ⟨v, x, vs, rfl, hS, E.up jn_l hR, m _ _ _ (jn_r ((t.bh.trans t2.eh)) t2.bh) hA⟩
/-- all of one kind, exactly -/
theorem ea_nil' (x0 : Ex B H) : EvAr tNil σ B H (fun B vs => Paired (E.R B) vs ([] : List α)) := fun H1 e Q k => k [] B H1 (Stp.refl (x0.trans e)) .nil
theorem ea_cons' {x : α} {xs : List α} (x0 : Ex B H) (h : EvE E te σ B H x) (hr : EvAr ar σ B H (fun B vs => Paired (E.R B) vs xs)) : EvAr (tCons te ar) σ B H (fun B vs => Paired (E.R B) vs (x :: xs)) := fun H1 e Q k =>
  h H1 e _ fun v x B2 H2 t hS hR => by
    cases hS
    have s := (Stp.go x0 e).trans t
    exact hr H2 s.eh _ fun vs B3 H3 t2 hA => k (v :: vs) (jn B2 B3) H3 (t.trans (s.join (Ex.refl _) t2)) (.cons (E.up jn_l hR) (E.ups (jn_r ((t.bh.trans t2.eh)) t2.bh) hA))
theorem pl {R : V → α → Prop} {vs : List V} {xs : List α} (p : Paired R vs xs) : vs.length = xs.length := Paired.length p
theorem em_lst {xs : List α} (h : EvAr ar σ B H (fun B vs => Paired (E.R B) vs xs)) (hz : xs.length ≤ 100000) : EvM E (tLst ar) σ B H (fun ys => ys = xs) := fun H1 e Q k =>
  h H1 e _ fun vs B2 H2 t hA => ⟨sz_of (by rw [pl hA]; exact hz), fun p hp => k p vs xs B2 _ (t.trans (Stp.go t.bh (Ex.new hp))) (fresh_back t.eh hp) (fresh_back t.bh hp) upd_same rfl hA⟩
theorem em_nil (x0 : Ex B H) : EvM E (tLst tNil) σ B H (fun ys => ys = []) := em_lst (ea_nil' x0) (Nat.zero_le _)
theorem es_tupT {xs : List α} (h : EvAr ar σ B H (fun B vs => Paired (E.R B) vs xs)) (hz : xs.length ≤ 100000) : EvE (eT E) (tTup ar) σ B H xs := fun H1 e Q k =>
  h H1 e _ fun vs B2 H2 t hA => ⟨sz_of (by rw [pl hA]; exact hz), fun p hp => k (.ref p) xs (upd B2 p (.tup vs)) _ (t.trans (Stp.new t.bh hp)) rfl ⟨p, vs, rfl, upd_same, E.ups (Ex.new (fresh_back t.bh hp)) hA⟩⟩
theorem es_tup2 {T : β → Prop} (x0 : Ex B H) (ha : EvS E ta σ B H S) (hb : EvS F tb σ B H T) : EvS (e2 E F) (tTup (tCons ta (tCons tb tNil))) σ B H (fun p => S p.1 ∧ T p.2) := fun H1 e Q k =>
  ea_c (S := S) x0 (mono_aC mono_aN) ha (ea_c (S := T) x0 mono_aN hb (ea_n x0)) H1 e _ fun vs B2 H2 t hA => by
    obtain ⟨v, x, r, rfl, hS, hx, w, y, r', rfl, hT, hy, rfl⟩ := hA
    exact ⟨by show 2 ≤ sizeLine; decide, fun p hp => k (.ref p) (x, y) (upd B2 p (.tup [v, w])) _ (t.trans (Stp.new t.bh hp)) ⟨hS, hT⟩ ⟨p, v, w, rfl, upd_same, E.up (Ex.new (fresh_back t.bh hp)) hx, F.up (Ex.new (fresh_back t.bh hp)) hy⟩⟩
theorem es_tup3 {T : β → Prop} {U : γ → Prop} (x0 : Ex B H) (ha : EvS E ta σ B H S) (hb : EvS F tb σ B H T) (hc : EvS G tc σ B H U) : EvS (e3 E F G) (tTup (tCons ta (tCons tb (tCons tc tNil)))) σ B H (fun p => S p.1 ∧ T p.2.1 ∧ U p.2.2) := fun H1 e Q k =>
  ea_c x0 (mono_aC (mono_aC mono_aN)) ha (ea_c x0 (mono_aC mono_aN) hb (ea_c x0 mono_aN hc (ea_n x0))) H1 e _ fun vs B2 H2 t hA => by
    obtain ⟨v, x, r, rfl, hS, hx, w, y, r', rfl, hT, hy, u, z, r'', rfl, hU, hz, rfl⟩ := hA
    exact ⟨by show 3 ≤ sizeLine; decide, fun p hp => k (.ref p) (x, y, z) (upd B2 p (.tup [v, w, u])) _ (t.trans (Stp.new t.bh hp)) ⟨hS, hT, hU⟩ ⟨p, v, w, u, rfl, upd_same, E.up (Ex.new (fresh_back t.bh hp)) hx, F.up (Ex.new (fresh_back t.bh hp)) hy, G.up (Ex.new (fresh_back t.bh hp)) hz⟩⟩

/-! ### calls -/
/-- a def's promise: arguments that stand for an i with Pre i; it tells what stands for some y with Post i y, and changes nothing -/
def Spec {ι : Type} (A : ι → Hp → List V → Prop) (Pre : ι → Prop) (F : Enc β) (Post : ι → β → Prop) : Sp := fun vs H Q _ => ∃ (i : ι) (B : Hp), Ex B H ∧ A i B vs ∧ Pre i ∧ ∀ w y B2 H2, Stp B H B2 H2 → Post i y → F.R B2 w y → Q w H2
def SpecM {ι : Type} (A : ι → Hp → List V → Prop) (Pre : ι → Prop) (F : Enc β) (Post : ι → List β → Prop) : Sp := fun vs H Q _ => ∃ (i : ι) (B : Hp), Ex B H ∧ A i B vs ∧ Pre i ∧ ∀ p ws ys B2 H2, Stp B H B2 H2 → H p = none → B2 p = none → H2 p = some (.lst ws) → Post i ys → Paired (F.R B2) ws ys → Q (.ref p) H2
abbrev ar1 (E : Enc α) (x : α) : Hp → List V → Prop := aC E (fun y => y = x) aN
abbrev ar2 (E : Enc α) (F : Enc β) (x : α × β) : Hp → List V → Prop := aC E (fun y => y = x.1) (aC F (fun y => y = x.2) aN)
abbrev ar3 (E : Enc α) (F : Enc β) (G : Enc γ) (x : α × β × γ) : Hp → List V → Prop := aC E (fun y => y = x.1) (aC F (fun y => y = x.2.1) (aC G (fun y => y = x.2.2) aN))
abbrev ar4 (E : Enc α) (F : Enc β) (G : Enc γ) (D : Enc δ) (x : α × β × γ × δ) : Hp → List V → Prop := aC E (fun y => y = x.1) (aC F (fun y => y = x.2.1) (aC G (fun y => y = x.2.2.1) (aC D (fun y => y = x.2.2.2) aN)))
abbrev ar5 (E : Enc α) (F : Enc β) (G : Enc γ) (D : Enc δ) (C : Enc ε) (x : α × β × γ × δ × ε) : Hp → List V → Prop := aC E (fun y => y = x.1) (aC F (fun y => y = x.2.1) (aC G (fun y => y = x.2.2.1) (aC D (fun y => y = x.2.2.2.1) (aC C (fun y => y = x.2.2.2.2) aN))))
theorem es_call {ι : Type} {A : ι → Hp → List V → Prop} {Pre : ι → Prop} {Post : ι → β → Prop} {X : XK} (i : ι) (x0 : Ex B H) (h : EvAr ar σ B H (A i)) (p : Pre i) : EvS F (tCall (Spec A Pre F Post) [] X ar) σ B H (Post i) := fun H1 e Q k =>
  h H1 e _ fun vs B2 H2 t hA => ⟨i, B2, t.bh, by rw [List.append_nil]; exact hA, p, fun w y B3 H3 t2 hy hR => k w y B3 H3 (t.trans t2) hy hR⟩
theorem em_call {ι : Type} {A : ι → Hp → List V → Prop} {Pre : ι → Prop} {Post : ι → List β → Prop} {X : XK} (i : ι) (x0 : Ex B H) (h : EvAr ar σ B H (A i)) (p : Pre i) : EvM F (tCall (SpecM A Pre F Post) [] X ar) σ B H (Post i) := fun H1 e Q k =>
  h H1 e _ fun vs B2 H2 t hA => ⟨i, B2, t.bh, by rw [List.append_nil]; exact hA, p, fun p ws ys B3 H3 t2 hp bp hl hy hR => k p ws ys B3 H3 (t.trans t2) (fresh_back t.eh hp) bp hl hy hR⟩
/-- a built-in's call, one argument -/
theorem es_cb1 {r : List V → Hp → VK → Prop} {x : α} {P : γ → Prop} (x0 : Ex B H) (h : EvE E ta σ B H x) (hr : ∀ v B2 H2, Ex B2 H2 → E.R B2 v x → ∀ Q : VK, (∀ z c B3 H3, Stp B2 H2 B3 H3 → P c → G.R B3 z c → Q z H3) → r [v] H2 Q) : EvS G (tCB r (tCons ta tNil)) σ B H P := fun H1 e Q k =>
  h H1 e _ fun v x' B2 H2 t hS hR => by
    cases hS
    exact hr v B2 H2 t.bh hR Q fun z c B3 H3 t2 hc hz => k z c B3 H3 (t.trans t2) hc hz
theorem es_cb2 {r : List V → Hp → VK → Prop} {x : α} {y : β} {P : γ → Prop} (x0 : Ex B H) (h : EvE E ta σ B H x) (h2 : EvE F tb σ B H y)
    (hr : ∀ v w B2 H2, Ex B2 H2 → E.R B2 v x → F.R B2 w y → ∀ Q : VK, (∀ z c B3 H3, Stp B2 H2 B3 H3 → P c → G.R B3 z c → Q z H3) → r [v, w] H2 Q) : EvS G (tCB r (tCons ta (tCons tb tNil))) σ B H P := fun H1 e Q k =>
  h H1 e _ fun v x' B2 H2 t hS hR => by
    cases hS
    exact h2.up ((Stp.go x0 e).trans t) H2 (Ex.refl _) _ fun w y' B3 H3 t2 hy hR2 => by
      cases hy
      exact hr v w B3 H3 t2.bh (E.up t2.eb hR) hR2 Q fun z c B4 H4 t3 hc hz => k z c B4 H4 ((t.trans t2).trans t3) hc hz
theorem em_cb1 {r : List V → Hp → VK → Prop} {x : α} {P : List γ → Prop} (x0 : Ex B H) (h : EvE E ta σ B H x) (hr : ∀ v B2 H2, Ex B2 H2 → E.R B2 v x → ∀ Q : VK, (∀ p ws, (∃ ys, P ys ∧ Paired (G.R B2) ws ys) → H2 p = none → Q (.ref p) (upd H2 p (.lst ws))) → r [v] H2 Q) : EvM G (tCB r (tCons ta tNil)) σ B H P := fun H1 e Q k =>
  h H1 e _ fun v x' B2 H2 t hS hR => by
    cases hS
    exact hr v B2 H2 t.bh hR Q fun p ws ⟨ys, hP, hy⟩ hp => k p ws ys B2 _ (t.trans (Stp.go t.bh (Ex.new hp))) (fresh_back t.eh hp) (fresh_back t.bh hp) upd_same hP hy
def rListS' (K : PySem.W.Frag) : List V → Hp → VK → Prop := fun xs H Q => ∃ p ys, xs = [V.ref p] ∧ (SqL K H p ys ∨ SqT K H p ys) ∧ ∀ l, H l = none → Q (.ref l) (upd H l (.lst ys))
def rTupS' (K : PySem.W.Frag) : List V → Hp → VK → Prop := fun xs H Q => ∃ p ys, xs = [V.ref p] ∧ ((SqL K H p ys ∧ ∀ l, H l = none → Q (.ref l) (upd H l (.tup ys))) ∨ (SqT K H p ys ∧ Q (.ref p) H))
def rLenD' : List V → Hp → VK → Prop := fun xs H Q => ∃ a kvs, xs = [V.ref a] ∧ H a = some (.dK kvs) ∧ Q (.int kvs.length) H
section
variable {X : Cx}
theorem cl_len : CallR X (.builtin "len") (rLenS X.K) := call_len_seq
theorem cl_list : CallR X (.type "list") (rListS' X.K) := call_list_of
theorem cl_tuple : CallR X (.type "tuple") (rTupS' X.K) := call_tuple_of
theorem cl_lenD : CallR X (.builtin "len") rLenD' := call_lenD
end
theorem es_lenL {xs : List α} (x0 : Ex B H) (h : EvE (eL E) ta σ B H xs) : EvE eI (tCB (rLenS K) (tCons ta tNil)) σ B H (xs.length : Int) :=
  es_cb1 x0 h fun v B2 H2 x2 ⟨a, vs, h1, h2, h3⟩ Q k => ⟨a, vs, by rw [h1], .inl (SqL.of (x2 _ _ h2)), by rw [pl h3]; exact k _ _ B2 H2 (Stp.refl x2) rfl rfl⟩
theorem es_lenT {xs : List α} (x0 : Ex B H) (h : EvE (eT E) ta σ B H xs) : EvE eI (tCB (rLenS K) (tCons ta tNil)) σ B H (xs.length : Int) :=
  es_cb1 x0 h fun v B2 H2 x2 ⟨a, vs, h1, h2, h3⟩ Q k => ⟨a, vs, by rw [h1], .inr (SqT.of (x2 _ _ h2)), by rw [pl h3]; exact k _ _ B2 H2 (Stp.refl x2) rfl rfl⟩
theorem es_lenD {ks : List Int} (x0 : Ex B H) (h : EvE eD ta σ B H ks) : EvE eI (tCB rLenD' (tCons ta tNil)) σ B H (ks.length : Int) :=
  es_cb1 x0 h fun v B2 H2 x2 ⟨a, kvs, h1, h2, h3⟩ Q k => ⟨a, kvs, by rw [h1], x2 _ _ h2, by
    have e : kvs.length = ks.length := by
      have q := congrArg List.length h3
      rw [List.length_map, List.length_map] at q
      exact q
    rw [e]
    exact k _ _ B2 H2 (Stp.refl x2) rfl rfl⟩
theorem em_listL {xs : List α} (x0 : Ex B H) (h : EvE (eL E) ta σ B H xs) : EvM E (tCB (rListS' K) (tCons ta tNil)) σ B H (fun ys => ys = xs) :=
  em_cb1 x0 h fun v B2 H2 x2 ⟨a, vs, h1, h2, h3⟩ Q k => ⟨a, vs, by rw [h1], .inl (SqL.of (x2 _ _ h2)), fun l hl => k l vs ⟨xs, rfl, h3⟩ hl⟩
theorem em_listT {xs : List α} (x0 : Ex B H) (h : EvE (eT E) ta σ B H xs) : EvM E (tCB (rListS' K) (tCons ta tNil)) σ B H (fun ys => ys = xs) :=
  em_cb1 x0 h fun v B2 H2 x2 ⟨a, vs, h1, h2, h3⟩ Q k => ⟨a, vs, by rw [h1], .inr (SqT.of (x2 _ _ h2)), fun l hl => k l vs ⟨xs, rfl, h3⟩ hl⟩
theorem es_tupL {xs : List α} (x0 : Ex B H) (h : EvE (eL E) ta σ B H xs) : EvE (eT E) (tCB (rTupS' K) (tCons ta tNil)) σ B H xs :=
  es_cb1 x0 h fun v B2 H2 x2 ⟨a, vs, h1, h2, h3⟩ Q k => ⟨a, vs, by rw [h1], .inl ⟨SqL.of (x2 _ _ h2), fun l hl => k (.ref l) xs (upd B2 l (.tup vs)) _ (Stp.new x2 hl) rfl ⟨l, vs, rfl, upd_same, E.ups (Ex.new (fresh_back x2 hl)) h3⟩⟩⟩
theorem es_sum {ns : List Int} (x0 : Ex B H) (h : EvE (eL eI) ta σ B H ns) : EvE eI (tCB (rSum K) (tCons ta tNil)) σ B H ns.sum :=
  es_cb1 x0 h fun v B2 H2 x2 hR Q k => by
    obtain ⟨a, h1, h2⟩ := eLI hR
    exact ⟨a, ns, by rw [h1], SqL.of (x2 _ _ h2), k _ _ B2 H2 (Stp.refl x2) rfl rfl⟩
theorem es_min {ns : List Int} (x0 : Ex B H) (h : EvE (eL eI) ta σ B H ns) (hz : 0 < ns.length) : EvS eI (tCB (rMin K) (tCons ta tNil)) σ B H (fun m => m ∈ ns ∧ ∀ y ∈ ns, m ≤ y) :=
  es_cb1 x0 h fun v B2 H2 x2 hR Q k => by
    obtain ⟨a, h1, h2⟩ := eLI hR
    exact ⟨a, ns, by rw [h1], SqL.of (x2 _ _ h2), hz, fun m hm hle => k _ _ B2 H2 (Stp.refl x2) ⟨hm, hle⟩ rfl⟩
end
end RR
namespace RR
open PySem L2 Evl
section
variable {α β γ δ ε : Type} {E : Enc α} {F : Enc β} {G : Enc γ}
variable {te ta tb tc tl : TE} {tt : TT} {σ : L2.St} {B H B0 H0 B1 H1 : Hp} {S : α → Prop} {K : PySem.W.Frag}

/-! ### comprehensions -/
/-- what holds ahead of turn i: D is where the new list stands -/
def Lw (F : Enc β) (Tr : α → β → Prop) (p : α → Bool) (B1 H1 : Hp) (D : Addr) (xs : List α) (i : Nat) (H' : Hp) : Prop :=
  ∃ B' acc ys, Stp B1 H1 B' H' ∧ Cell H1 B' H' D (.lst acc) ∧ Paired (F.R B') acc ys ∧ Paired Tr ((xs.take i).filter p) ys ∧ acc.length ≤ i
theorem lw_start {Tr : α → β → Prop} {p : α → Bool} {D : Addr} {xs : List α} (x1 : Ex B1 H1) (hD : H1 D = none) : Lw F Tr p B1 H1 D xs 0 (upd H1 D (.lst [])) :=
  ⟨B1, [], [], Stp.go x1 (Ex.new hD), ⟨hD, fresh_back x1 hD, upd_same⟩, .nil, .nil, Nat.le_refl _⟩
theorem lw_turn {Tr : α → β → Prop} {p : α → Bool} {D : Addr} {xs : List α} {i : Nat} {H' : Hp} {x : α} {σ2 : L2.St} (hw : Lw F Tr p B1 H1 D xs i H') (hx : xs[i]? = some x) (hz : i < 50000)
    (ht : ∀ B' , Stp B1 H1 B' H' → EvT tt σ2 H' (p x)) (he : p x = true → ∀ B', Stp B1 H1 B' H' → EvS F te σ2 B' H' (Tr x)) :
    tt σ2 H' fun b H3 => if b = true then te σ2 H3 fun y H4 => ∃ acc, H4 D = some (.lst acc) ∧ acc.length < sizeLine ∧ Lw F Tr p B1 H1 D xs (i + 1) (upd H4 D (.lst (acc ++ [y]))) else Lw F Tr p B1 H1 D xs (i + 1) H3 := by
  obtain ⟨B', acc, ys, s, c, h1, h2, h3⟩ := hw
  refine ht B' s H' (Ex.refl _) _ fun H3 e3 => ?_
  have tk := take_succ_filter p xs i x hx
  cases hp : p x with
  | true =>
    rw [hp] at tk
    refine iteT (he hp B' s H3 e3 _ fun y yy B4 H4 t4 hT hR => ⟨acc, t4.eh _ _ (e3 _ _ c.h), sz_lt (by omega), B4, acc ++ [y], ys ++ [yy], ?_, ?_, ?_, ?_, ?_⟩)
    · exact ((c.go e3).up t4).mut ((s.goH e3).trans t4)
    · exact ((c.go e3).up t4).same
    · exact Paired.snoc (F.ups t4.eb h1) hR
    · rw [tk, if_pos rfl]
      exact Paired.snoc h2 hT
    · rw [List.length_append, List.length_singleton]
      omega
  | false =>
    rw [hp] at tk
    refine iteF ⟨B', acc, ys, s.goH e3, c.go e3, h1, ?_, by omega⟩
    rw [tk, if_neg Bool.false_ne_true, List.append_nil]
    exact h2
theorem em_lcL {xs : List α} {p : α → Bool} {Tr : α → β → Prop} {j : Nat} {vs : List Nat} (x0 : Ex B H) (h : EvE (eL E) tl σ B H xs) (hz : xs.length ≤ 40000)
    (hw : ∀ v, wipe ((wipe σ vs).set j (some v)) vs = wipe σ vs)
    (ht : ∀ x v B1 H1, Stp B H B1 H1 → x ∈ xs → E.R B1 v x → EvT tt ((wipe σ vs).set j (some v)) H1 (p x))
    (he : ∀ x v B1 H1, Stp B H B1 H1 → x ∈ xs → E.R B1 v x → p x = true → EvS F te ((wipe σ vs).set j (some v)) B1 H1 (Tr x)) :
    EvM F (tLc (iList K tl) (gName j) tt te vs) σ B H (fun ys => Paired Tr (xs.filter p) ys) := fun H0 e Q k =>
  h H0 e _ fun v x' B1 H1 t hx hR => by
    cases hx
    obtain ⟨a, ws, rfl, h2, h3⟩ := hR
    have s0 := (Stp.go x0 e).trans t
    refine ⟨a, rfl, ⟨ws, SqL.of (t.bh _ _ h2)⟩, fun D hD => lc_list (xs := ws) (Lw F Tr p B1 H1 D xs) (lw_start t.bh hD) (fun i H' hi hP => ?_) (fun i w H' hi hP => ?_) (fun H' hP => ?_)⟩
    · obtain ⟨B', acc, ys, s, _⟩ := hP
      exact SqL.of (s.bh _ _ (s.eb _ _ h2))
    · obtain ⟨x, hx, hr⟩ := pgetV h3 hi
      have hm : x ∈ xs := List.mem_of_getElem? hx
      exact ⟨hw w, lw_turn hP hx (by have := (List.getElem?_eq_some_iff.mp hx).1; omega) (fun B' s => ht x w B' H' (s0.trans s) hm (E.up s.eb hr)) (fun hp B' s => he x w B' H' (s0.trans s) hm (E.up s.eb hr) hp)⟩
    · obtain ⟨B', acc, ys, s, c, q1, q2, q3⟩ := hP
      rw [pl h3, List.take_length] at q2
      exact k D acc ys B' H' (t.trans s) (fresh_back t.eh hD) c.b c.h q2 q1
theorem em_lcT {xs : List α} {p : α → Bool} {Tr : α → β → Prop} {j : Nat} {vs : List Nat} (x0 : Ex B H) (h : EvE (eT E) tl σ B H xs) (hz : xs.length ≤ 40000)
    (hw : ∀ v, wipe ((wipe σ vs).set j (some v)) vs = wipe σ vs)
    (ht : ∀ x v B1 H1, Stp B H B1 H1 → x ∈ xs → E.R B1 v x → EvT tt ((wipe σ vs).set j (some v)) H1 (p x))
    (he : ∀ x v B1 H1, Stp B H B1 H1 → x ∈ xs → E.R B1 v x → p x = true → EvS F te ((wipe σ vs).set j (some v)) B1 H1 (Tr x)) :
    EvM F (tLc (iTup K tl) (gName j) tt te vs) σ B H (fun ys => Paired Tr (xs.filter p) ys) := fun H0 e Q k =>
  h H0 e _ fun v x' B1 H1 t hx hR => by
    cases hx
    obtain ⟨a, ws, rfl, h2, h3⟩ := hR
    have s0 := (Stp.go x0 e).trans t
    refine ⟨a, rfl, ⟨ws, SqT.of (t.bh _ _ h2)⟩, fun D hD => lc_tup (xs := ws) (Lw F Tr p B1 H1 D xs) (lw_start t.bh hD) (fun i H' hi hP => ?_) (fun i w H' hi hP => ?_) (fun H' hP => ?_)⟩
    · obtain ⟨B', acc, ys, s, _⟩ := hP
      exact SqT.of (s.bh _ _ (s.eb _ _ h2))
    · obtain ⟨x, hx, hr⟩ := pgetV h3 hi
      have hm : x ∈ xs := List.mem_of_getElem? hx
      exact ⟨hw w, lw_turn hP hx (by have := (List.getElem?_eq_some_iff.mp hx).1; omega) (fun B' s => ht x w B' H' (s0.trans s) hm (E.up s.eb hr)) (fun hp B' s => he x w B' H' (s0.trans s) hm (E.up s.eb hr) hp)⟩
    · obtain ⟨B', acc, ys, s, c, q1, q2, q3⟩ := hP
      rw [pl h3, List.take_length] at q2
      exact k D acc ys B' H' (t.trans s) (fresh_back t.eh hD) c.b c.h q2 q1
/-- over a list of ints that H knows (it may be one that changes) -/
theorem em_lcH {ns : List Int} {p : Int → Bool} {Tr : Int → β → Prop} {j : Nat} {vs : List Nat} (x0 : Ex B H) (h : EvE (eL eI) tl σ H H ns) (hz : ns.length ≤ 40000)
    (hw : ∀ v, wipe ((wipe σ vs).set j (some v)) vs = wipe σ vs)
    (ht : ∀ n B1 H1, Stp B H B1 H1 → n ∈ ns → EvT tt ((wipe σ vs).set j (some (.int n))) H1 (p n))
    (he : ∀ n B1 H1, Stp B H B1 H1 → n ∈ ns → p n = true → EvS F te ((wipe σ vs).set j (some (.int n))) B1 H1 (Tr n)) :
    EvM F (tLc (iList K tl) (gName j) tt te vs) σ B H (fun ys => Paired Tr (ns.filter p) ys) := fun H0 e Q k =>
  h H0 e _ fun v x' C1 H1 t hx hR => by
    cases hx
    obtain ⟨a, rfl, h2⟩ := eLI hR
    have e1 : Ex H H1 := e.trans t.eh
    have s0 : Stp B H B H1 := Stp.go x0 e1
    refine ⟨a, rfl, ⟨_, SqL.of (t.bh _ _ h2)⟩, fun D hD => lc_list (xs := ns.map V.int) (Lw F Tr p B H1 D ns) (lw_start (x0.trans e1) hD) (fun i H' hi hP => ?_) (fun i w H' hi hP => ?_) (fun H' hP => ?_)⟩
    · obtain ⟨B', acc, ys, s, _⟩ := hP
      exact SqL.of (s.eh _ _ (t.bh _ _ h2))
    · obtain ⟨n, hx, hr⟩ := pgetV (pI' (H := H) ns) hi
      cases hr
      have hm : n ∈ ns := List.mem_of_getElem? hx
      exact ⟨hw _, lw_turn hP hx (by have := (List.getElem?_eq_some_iff.mp hx).1; omega) (fun B' s => ht n B' H' (s0.trans s) hm) (fun hp B' s => he n B' H' (s0.trans s) hm hp)⟩
    · obtain ⟨B', acc, ys, s, c, q1, q2, q3⟩ := hP
      rw [List.length_map, List.take_length] at q2
      exact k D acc ys B' H' ((Stp.go (x0.trans e) t.eh).trans s) (fresh_back t.eh hD) c.b c.h q2 q1
/-- nought, one, .. below n -/
def rg (n : Int) : List Int := (List.range n.toNat).map fun (k : Nat) => (k : Int)
theorem rg_len (n : Int) : (rg n).length = n.toNat := by
  unfold rg
  rw [List.length_map, List.length_range]
theorem rg_get {n : Int} {i : Nat} (h : i < n.toNat) : (rg n)[i]? = some (i : Int) := by
  unfold rg
  rw [List.getElem?_map, List.getElem?_range h]
  rfl
theorem mem_rg {n k : Int} : k ∈ rg n ↔ 0 ≤ k ∧ k < n := by
  unfold rg
  rw [List.mem_map]
  constructor
  · rintro ⟨a, ha, rfl⟩
    rw [List.mem_range] at ha
    omega
  · rintro ⟨h0, h1⟩
    exact ⟨k.toNat, by rw [List.mem_range]; omega, by omega⟩
theorem em_lcR {n : Int} {p : Int → Bool} {Tr : Int → β → Prop} {j : Nat} {vs : List Nat} (x0 : Ex B H) (h : EvE eI tl σ B H n) (hz : n ≤ 40000) (hz' : -40000 ≤ n)
    (hw : ∀ v, wipe ((wipe σ vs).set j (some v)) vs = wipe σ vs)
    (ht : ∀ (k : Int) B1 H1, Stp B H B1 H1 → 0 ≤ k → k < n → EvT tt ((wipe σ vs).set j (some (.int k))) H1 (p k))
    (he : ∀ (k : Int) B1 H1, Stp B H B1 H1 → 0 ≤ k → k < n → p k = true → EvS F te ((wipe σ vs).set j (some (.int k))) B1 H1 (Tr k)) :
    EvM F (tLc (iRng1 (tCons tl tNil)) (gName j) tt te vs) σ B H (fun ys => Paired Tr ((rg n).filter p) ys) := fun H0 e Q k =>
  h H0 e _ fun v x' B1 H1 t hx hR => by
    cases hx
    cases hR
    have s0 := (Stp.go x0 e).trans t
    refine ⟨n, rfl, by omega, by omega, fun D hD => lc_range (lo := 0) (n := n.toNat) (Lw F Tr p B1 H1 D (rg n)) (lw_start t.bh hD) (fun i H' hi hP => ?_) (fun H' hP => ?_)⟩
    · have e0 : (0 : Int) + (i : Int) = (i : Int) := Int.zero_add _
      rw [e0]
      exact ⟨hw _, lw_turn hP (rg_get hi) (by omega) (fun B' s => ht i B' H' (s0.trans s) (by omega) (by omega)) (fun hp B' s => he i B' H' (s0.trans s) (by omega) (by omega) hp)⟩
    · obtain ⟨B', acc, ys, s, c, q1, q2, q3⟩ := hP
      rw [← rg_len n, List.take_length] at q2
      exact k D acc ys B' H' (t.trans s) (fresh_back t.eh hD) c.b c.h q2 q1
theorem et_yes {σ : L2.St} {H : Hp} : EvT tYes σ H true := fun H1 e Q q => q H1 (Ex.refl _)
theorem pair_fun {f : α → β} : ∀ {xs : List α} {ys : List β}, Paired (fun x y => y = f x) xs ys → ys = xs.map f
  | _, _, .nil => rfl
  | _, _, .cons r t => by
    rw [pair_fun t, r]
    rfl
theorem filter_yes (xs : List α) : xs.filter (fun _ => true) = xs := by
  induction xs with
  | nil => rfl
  | cons x r ih => rw [List.filter_cons, if_pos rfl, ih]

/-! ### slices, joins -/
def cutP (xs : List α) (lo hi : Option Int) : List α := (xs.drop (HT.sIx xs.length 0 lo)).take (HT.sIx xs.length xs.length hi - HT.sIx xs.length 0 lo)
theorem pcut {R : V → α → Prop} {vs : List V} {xs : List α} (lo hi : Option Int) (p : Paired R vs xs) : Paired R (cutV vs lo hi) (cutP xs lo hi) := by
  unfold cutV cutP
  rw [pl p]
  exact ptake _ (pdrop _ p)
def EvO' (to : TO) (σ : L2.St) (H : Hp) (o : Option Int) : Prop := EvO to σ H o
theorem em_slL {to1 to2 : TO} {xs : List α} {lo hi : Option Int} (x0 : Ex B H) (h : EvE (eL E) te σ B H xs) (h1 : EvO to1 σ H lo) (h2 : EvO to2 σ H hi) : EvM E (tSl (rSlL K) te to1 to2) σ B H (fun ys => ys = cutP xs lo hi) := fun H1 e Q k =>
  h H1 e _ fun v x' B2 H2 t hx hR => by
    cases hx
    obtain ⟨a, vs, rfl, q2, q3⟩ := hR
    refine h1 H2 (e.trans t.eh) _ fun H3 e3 => h2 H3 ((e.trans t.eh).trans e3) _ fun H4 e4 => ⟨a, vs, rfl, SqL.of (e4 _ _ (e3 _ _ (t.bh _ _ q2))), fun p hp => ?_⟩
    have s := t.goH (e3.trans e4)
    exact k p _ _ B2 _ (s.goH (Ex.new hp)) (fresh_back s.eh hp) (fresh_back s.bh hp) upd_same rfl (pcut lo hi q3)
theorem eo_some' {i : Int} (h : EvE eI te σ B H i) : EvO (tPart te) σ H (some i) := eo_some (ev_sI h)
theorem em_cat {xs ys : List α} (x0 : Ex B H) (ha : EvE (eL E) ta σ B H xs) (hb : EvE (eL E) tb σ B H ys) (hz : xs.length + ys.length ≤ 100000) : EvM E (tOp rCat ta tb) σ B H (fun zs => zs = xs ++ ys) := fun H1 e Q k =>
  ha H1 e _ fun v x' B2 H2 t hx hR => by
    cases hx
    exact hb.up ((Stp.go x0 e).trans t) H2 (Ex.refl _) _ fun w y' B3 H3 t2 hy hR2 => by
      cases hy
      obtain ⟨a, vs, rfl, q2, q3⟩ := hR
      obtain ⟨b, ws, rfl, q5, q6⟩ := hR2
      refine ⟨a, b, vs, ws, rfl, rfl, t2.bh _ _ (t2.eb _ _ q2), t2.bh _ _ q5, sz_of (by rw [pl q3, pl q6]; exact hz), fun p hp => ?_⟩
      have s := t.trans t2
      exact k p _ _ B3 _ (s.goH (Ex.new hp)) (fresh_back s.eh hp) (fresh_back s.bh hp) upd_same rfl (papp (E.ups t2.eb q3) q6)

/-! ### statements -/
variable {D : Ends} {tu tw tz : TS} {g : TG} {i : Nat}
theorem q_setI {n : Int} (h : EvE eI te σ B H n) (k : ∀ H1, Ex H H1 → tz D (σ.set i (some (.int n))) H1) : tSeq (tAsg te (gName i)) tz D σ H := q_asg (ev_sI h) k
theorem q_setB {b : Bool} (h : EvE eB te σ B H b) (k : ∀ H1, Ex H H1 → tz D (σ.set i (some (.bl b))) H1) : tSeq (tAsg te (gName i)) tz D σ H := q_asg (ev_sB h) k
theorem q_setS (h : EvS E te σ B H S) (k : ∀ v x B1 H1, Stp B H B1 H1 → S x → E.R B1 v x → tz D (σ.set i (some v)) H1) : tSeq (tAsg te (gName i)) tz D σ H :=
  h H (Ex.refl _) _ fun v x B1 H1 s hS hR => k v x B1 H1 s hS hR
theorem q_setM {S : List α → Prop} (h : EvM E te σ B H S) (k : ∀ p vs xs B1 H1, Stp B H B1 H1 → H p = none → B1 p = none → H1 p = some (.lst vs) → S xs → Paired (E.R B1) vs xs → tz D (σ.set i (some (.ref p))) H1) : tSeq (tAsg te (gName i)) tz D σ H :=
  h H (Ex.refl _) _ fun p vs xs B1 H1 s hp bp hl hS hR => k p vs xs B1 H1 s hp bp hl hS hR
theorem q_retS (h : EvS E te σ B H S) (k : ∀ v x B1 H1, Stp B H B1 H1 → S x → E.R B1 v x → D.rt v H1) : tRet te D σ H :=
  h H (Ex.refl _) _ fun v x B1 H1 s hS hR => k v x B1 H1 s hS hR
theorem q_retM {S : List α → Prop} (h : EvM E te σ B H S) (k : ∀ p vs xs B1 H1, Stp B H B1 H1 → H p = none → B1 p = none → H1 p = some (.lst vs) → S xs → Paired (E.R B1) vs xs → D.rt (.ref p) H1) : tRet te D σ H :=
  h H (Ex.refl _) _ fun p vs xs B1 H1 s hp bp hl hS hR => k p vs xs B1 H1 s hp bp hl hS hR
theorem q_dropS (h : EvS E te σ B H S) (k : ∀ v x B1 H1, Stp B H B1 H1 → S x → E.R B1 v x → tz D σ H1) : tSeq (tDrop te) tz D σ H :=
  h H (Ex.refl _) _ fun v x B1 H1 s hS hR => k v x B1 H1 s hS hR
/-- xs.append(e) of one's own list -/
theorem c_app {l : Addr} {xs : List V} (c : Cell H0 B H l (.lst xs)) (s0 : Stp B0 H0 B H) (ho : σ[i]? = some (some (.ref l))) (hz : xs.length < 100000) (h : EvS E te σ B H S)
    (k : ∀ v x B1 H1, Stp B0 H0 B1 H1 → Ex B B1 → Cell H0 B1 H1 l (.lst (xs ++ [v])) → (∀ p o, p ≠ l → Cell H0 B H p o → Cell H0 B1 H1 p o) → S x → E.R B1 v x → D.nx σ H1) :
    tDrop (tBM K "list" rAppend (tVar i) (tCons te tNil)) D σ H :=
  ⟨.ref l, ho, Or.inl ⟨rfl, xs, SqL.of c.h⟩, h H (Ex.refl _) _ fun v x B1 H1 s hS hR => ⟨l, xs, v, rfl, rfl, s.eh _ _ c.h, sz_lt hz,
    k v x B1 _ ((c.up s).mut (s0.trans s)) s.eb (c.up s).same (fun p o ne d => (d.up s).other ne) hS hR⟩⟩
theorem q_app {l : Addr} {xs : List V} (c : Cell H0 B H l (.lst xs)) (s0 : Stp B0 H0 B H) (ho : σ[i]? = some (some (.ref l))) (hz : xs.length < 100000) (h : EvS E te σ B H S)
    (k : ∀ v x B1 H1, Stp B0 H0 B1 H1 → Ex B B1 → Cell H0 B1 H1 l (.lst (xs ++ [v])) → (∀ p o, p ≠ l → Cell H0 B H p o → Cell H0 B1 H1 p o) → S x → E.R B1 v x → tz D σ H1) :
    tSeq (tDrop (tBM K "list" rAppend (tVar i) (tCons te tNil))) tz D σ H := c_app (D := { D with nx := tz D }) c s0 ho hz h k
/-- a loop over a list: W tells what holds ahead of each turn -/
theorem c_forL {T : List α → Prop} (h : EvS (eL E) tl σ B H T) (W : List α → Hp → Nat → L2.St → Hp → Prop)
    (h0 : ∀ xs B1 H1, Stp B H B1 H1 → T xs → W xs B1 0 σ H1) (hb : ∀ xs B1 i σ' H', W xs B1 i σ' H' → Ex B1 H')
    (hs : ∀ xs B1 i x v σ' H', T xs → Ex B B1 → xs[i]? = some x → E.R B1 v x → W xs B1 i σ' H' → g v σ' H' fun σ2 H2 => tu { D with nx := W xs B1 (i + 1), ct := W xs B1 (i + 1), bk := D.nx } σ2 H2)
    (hd : ∀ xs B1 σ' H', T xs → Ex B B1 → W xs B1 xs.length σ' H' → D.nx σ' H') : tFor (iList K tl) g tu D σ H :=
  h H (Ex.refl _) _ fun v xs B1 H1 s hT ⟨a, ws, e1, h2, h3⟩ => ⟨a, e1, ⟨ws, SqL.of (s.bh _ _ h2)⟩, for_list (xs := ws) (W xs B1) (h0 xs B1 H1 s hT) (fun i σ' H' _ p => SqL.of (hb _ _ _ _ _ p _ _ h2)) (fun i w σ' H' hi p => by
    obtain ⟨x, hx, hr⟩ := pgetV h3 hi
    exact hs xs B1 i x w σ' H' hT s.eb hx hr p) (fun σ' H' p => hd xs B1 σ' H' hT s.eb (by rw [← pl h3]; exact p))⟩
theorem q_forL {T : List α → Prop} (h : EvS (eL E) tl σ B H T) (W : List α → Hp → Nat → L2.St → Hp → Prop)
    (h0 : ∀ xs B1 H1, Stp B H B1 H1 → T xs → W xs B1 0 σ H1) (hb : ∀ xs B1 i σ' H', W xs B1 i σ' H' → Ex B1 H')
    (hs : ∀ xs B1 i x v σ' H', T xs → Ex B B1 → xs[i]? = some x → E.R B1 v x → W xs B1 i σ' H' → g v σ' H' fun σ2 H2 => tu { D with nx := W xs B1 (i + 1), ct := W xs B1 (i + 1), bk := tz D } σ2 H2)
    (hd : ∀ xs B1 σ' H', T xs → Ex B B1 → W xs B1 xs.length σ' H' → tz D σ' H') : tSeq (tFor (iList K tl) g tu) tz D σ H :=
  c_forL (D := { D with nx := tz D }) h W h0 hb hs hd
/-- over a list that B knows -/
theorem c_forE {xs : List α} (x0 : Ex B H) (h : ∃ v, Ev tl σ H v ∧ (eL E).R B v xs) (W : Nat → L2.St → Hp → Prop)
    (h0 : ∀ H1, Ex H H1 → W 0 σ H1) (hb : ∀ i σ' H', W i σ' H' → Ex B H')
    (hs : ∀ i x v σ' H', xs[i]? = some x → E.R B v x → W i σ' H' → g v σ' H' fun σ2 H2 => tu { D with nx := W (i + 1), ct := W (i + 1), bk := D.nx } σ2 H2)
    (hd : ∀ σ' H', W xs.length σ' H' → D.nx σ' H') : tFor (iList K tl) g tu D σ H := by
  obtain ⟨v, hv, a, ws, e1, h2, h3⟩ := h
  exact hv H (Ex.refl _) _ fun H1 e => ⟨a, e1, ⟨ws, SqL.of (e _ _ (x0 _ _ h2))⟩, for_list (xs := ws) W (h0 H1 e) (fun i σ' H' _ p => SqL.of (hb _ _ _ p _ _ h2)) (fun i w σ' H' hi p => by
    obtain ⟨x, hx, hr⟩ := pgetV h3 hi
    exact hs i x w σ' H' hx hr p) (fun σ' H' p => hd σ' H' (by rw [← pl h3]; exact p))⟩
theorem q_forE {xs : List α} (x0 : Ex B H) (h : ∃ v, Ev tl σ H v ∧ (eL E).R B v xs) (W : Nat → L2.St → Hp → Prop)
    (h0 : ∀ H1, Ex H H1 → W 0 σ H1) (hb : ∀ i σ' H', W i σ' H' → Ex B H')
    (hs : ∀ i x v σ' H', xs[i]? = some x → E.R B v x → W i σ' H' → g v σ' H' fun σ2 H2 => tu { D with nx := W (i + 1), ct := W (i + 1), bk := tz D } σ2 H2)
    (hd : ∀ σ' H', W xs.length σ' H' → tz D σ' H') : tSeq (tFor (iList K tl) g tu) tz D σ H :=
  c_forE (D := { D with nx := tz D }) x0 h W h0 hb hs hd
theorem c_forTE {xs : List α} (x0 : Ex B H) (h : ∃ v, Ev tl σ H v ∧ (eT E).R B v xs) (W : Nat → L2.St → Hp → Prop)
    (h0 : ∀ H1, Ex H H1 → W 0 σ H1) (hb : ∀ i σ' H', W i σ' H' → Ex B H')
    (hs : ∀ i x v σ' H', xs[i]? = some x → E.R B v x → W i σ' H' → g v σ' H' fun σ2 H2 => tu { D with nx := W (i + 1), ct := W (i + 1), bk := D.nx } σ2 H2)
    (hd : ∀ σ' H', W xs.length σ' H' → D.nx σ' H') : tFor (iTup K tl) g tu D σ H := by
  obtain ⟨v, hv, a, ws, e1, h2, h3⟩ := h
  exact hv H (Ex.refl _) _ fun H1 e => ⟨a, e1, ⟨ws, SqT.of (e _ _ (x0 _ _ h2))⟩, for_tup (xs := ws) W (h0 H1 e) (fun i σ' H' _ p => SqT.of (hb _ _ _ p _ _ h2)) (fun i w σ' H' hi p => by
    obtain ⟨x, hx, hr⟩ := pgetV h3 hi
    exact hs i x w σ' H' hx hr p) (fun σ' H' p => hd σ' H' (by rw [← pl h3]; exact p))⟩
/-- range(n) -/
theorem c_forR {n : Int} {j : Nat} (h : EvE eI te σ B H n) (hn : -100000 ≤ n ∧ n ≤ 100000) (W : Nat → L2.St → Hp → Prop)
    (h0 : ∀ H1, Ex H H1 → W 0 σ H1) (hs : ∀ (i : Nat) σ' H', (i : Int) < n → W i σ' H' → tu { D with nx := W (i + 1), ct := W (i + 1), bk := D.nx } (σ'.set j (some (.int (i : Int)))) H')
    (hd : ∀ σ' H', W n.toNat σ' H' → D.nx σ' H') : tFor (iRng1 (tCons te tNil)) (gName j) tu D σ H :=
  ev_sI h H (Ex.refl H) _ fun H1 e => ⟨n, rfl, by omega, by omega, for_range (lo := 0) (n := n.toNat) W (h0 H1 e) (fun i σ' H' hi p => by
    have e0 : (0 : Int) + (i : Int) = (i : Int) := Int.zero_add _
    show tu { D with nx := W (i + 1), ct := W (i + 1), bk := D.nx } (σ'.set j (some (.int ((0 : Int) + (i : Int))))) H'
    rw [e0]
    exact hs i σ' H' (by omega) p) hd⟩
theorem q_forR {n : Int} {j : Nat} (h : EvE eI te σ B H n) (hn : -100000 ≤ n ∧ n ≤ 100000) (W : Nat → L2.St → Hp → Prop)
    (h0 : ∀ H1, Ex H H1 → W 0 σ H1) (hs : ∀ (i : Nat) σ' H', (i : Int) < n → W i σ' H' → tu { D with nx := W (i + 1), ct := W (i + 1), bk := tz D } (σ'.set j (some (.int (i : Int)))) H')
    (hd : ∀ σ' H', W n.toNat σ' H' → tz D σ' H') : tSeq (tFor (iRng1 (tCons te tNil)) (gName j) tu) tz D σ H :=
  c_forR (D := { D with nx := tz D }) h hn W h0 hs hd
theorem c_forR2 {lo n : Int} {j : Nat} (h1 : EvE eI ta σ B H lo) (h : EvE eI te σ B H n) (hn : 0 ≤ lo ∧ lo ≤ 100000 ∧ -100000 ≤ n ∧ n ≤ 100000) (W : Nat → L2.St → Hp → Prop)
    (h0 : ∀ H1, Ex H H1 → W 0 σ H1) (hs : ∀ (i : Nat) σ' H', lo + (i : Int) < n → W i σ' H' → tu { D with nx := W (i + 1), ct := W (i + 1), bk := D.nx } (σ'.set j (some (.int (lo + (i : Int))))) H')
    (hd : ∀ σ' H', W (n - lo).toNat σ' H' → D.nx σ' H') : tFor (iRng2 (tCons ta (tCons te tNil))) (gName j) tu D σ H :=
  s_forR2 (ea_cons (ev_sI h1) (ea_cons (ev_sI h) ea_nil)) hn W h0 hs hd
theorem q_forR2' {lo n : Int} {j : Nat} (h1 : EvE eI ta σ B H lo) (h : EvE eI te σ B H n) (hn : 0 ≤ lo ∧ lo ≤ 100000 ∧ -100000 ≤ n ∧ n ≤ 100000) (W : Nat → L2.St → Hp → Prop)
    (h0 : ∀ H1, Ex H H1 → W 0 σ H1) (hs : ∀ (i : Nat) σ' H', lo + (i : Int) < n → W i σ' H' → tu { D with nx := W (i + 1), ct := W (i + 1), bk := tz D } (σ'.set j (some (.int (lo + (i : Int))))) H')
    (hd : ∀ σ' H', W (n - lo).toNat σ' H' → tz D σ' H') : tSeq (tFor (iRng2 (tCons ta (tCons te tNil))) (gName j) tu) tz D σ H :=
  c_forR2 (D := { D with nx := tz D }) h1 h hn W h0 hs hd
/-- enumerate: each turn a new pair -/
theorem for_enum {a : Addr} {xs : List V} {g : TG} {tb : TS} {D : Ends} {σ : L2.St} {H : Hp} (Pv : Nat → L2.St → Hp → Prop) (h0 : Pv 0 σ H) (hl : ∀ i σ H, i ≤ xs.length → Pv i σ H → SqL K H a xs)
    (hs : ∀ i x σ H p, xs[i]? = some x → Pv i σ H → H p = none → g (.ref p) σ (upd H p (.tup [.int (i : Nat), x])) fun σ2 H2 => tb { D with nx := Pv (i + 1), ct := Pv (i + 1), bk := D.nx } σ2 H2) (hd : ∀ σ H, Pv xs.length σ H → D.nx σ H) :
    ∃ W : Nat → Nat → L2.St → Hp → Prop, (∃ m, W 0 m σ H) ∧ ∀ i m σ H, W i m σ H →
      ((Ite K a).stop i H ∧ D.nx σ H) ∨ ((Ite K a).go i H ∧ ∃ N : L2.St → Hp → Prop, (∀ σ' H', N σ' H' → ∃ m', m' < m ∧ W (i + 1) m' σ' H') ∧ ∀ x H', (Ite K a).yld i H x H' → g x σ H' fun σ2 H2 => tb { D with nx := N, ct := N, bk := D.nx } σ2 H2) := by
  refine ⟨fun i m σ H => m = xs.length - i ∧ i ≤ xs.length ∧ Pv i σ H, ⟨xs.length, by simp, Nat.zero_le _, h0⟩, ?_⟩
  rintro i m σ H ⟨rfl, hi, p⟩
  have q := hl i σ H hi p
  by_cases hlt : i < xs.length
  · refine .inr ⟨⟨xs, xs[i], q, by simp [hlt]⟩, Pv (i + 1), fun σ' H' p' => ⟨xs.length - (i + 1), by omega, rfl, hlt, p'⟩, fun x H' y => ?_⟩
    obtain ⟨T, z, e1, hT, e2, y⟩ := y
    subst e1
    subst e2
    exact hs i z σ H T (y xs q) p hT
  · have e : i = xs.length := by omega
    subst e
    exact .inl ⟨⟨xs, q, Nat.le_refl _⟩, hd σ H p⟩
theorem c_forEn {xs : List α} {j l : Nat} (x0 : Ex B H) (h : ∃ v, Ev tl σ H v ∧ (eL E).R B v xs) (W : Nat → L2.St → Hp → Prop)
    (h0 : ∀ H1, Ex H H1 → W 0 σ H1) (hb : ∀ i σ' H', W i σ' H' → Ex B H')
    (hs : ∀ i x v σ' H' H2, xs[i]? = some x → E.R B v x → W i σ' H' → Ex H' H2 → tu { D with nx := W (i + 1), ct := W (i + 1), bk := D.nx } ((σ'.set j (some (.int (i : Int)))).set l (some v)) H2)
    (hd : ∀ σ' H', W xs.length σ' H' → D.nx σ' H') : tFor (iEnum K (tCons tl tNil)) (gTup K 2 (gCons (gName j) (gCons (gName l) gNil))) tu D σ H := by
  obtain ⟨v, hv, a, ws, e1, h2, h3⟩ := h
  exact hv H (Ex.refl _) _ fun H1 e => ⟨a, ws, by rw [e1], SqL.of (e _ _ (x0 _ _ h2)), for_enum (xs := ws) W (h0 H1 e) (fun i σ' H' _ p => SqL.of (hb _ _ _ p _ _ h2)) (fun i w σ' H' p hi hP hp => by
    obtain ⟨x, hx, hr⟩ := pgetV h3 hi
    exact ⟨p, _, rfl, SqT.of upd_same, rfl, _, _, rfl, _, _, rfl, rfl, hs i x w σ' H' _ hx hr hP (Ex.new hp)⟩) (fun σ' H' p => hd σ' H' (by rw [← pl h3]; exact p))⟩
theorem q_forEn {xs : List α} {j l : Nat} (x0 : Ex B H) (h : ∃ v, Ev tl σ H v ∧ (eL E).R B v xs) (W : Nat → L2.St → Hp → Prop)
    (h0 : ∀ H1, Ex H H1 → W 0 σ H1) (hb : ∀ i σ' H', W i σ' H' → Ex B H')
    (hs : ∀ i x v σ' H' H2, xs[i]? = some x → E.R B v x → W i σ' H' → Ex H' H2 → tu { D with nx := W (i + 1), ct := W (i + 1), bk := tz D } ((σ'.set j (some (.int (i : Int)))).set l (some v)) H2)
    (hd : ∀ σ' H', W xs.length σ' H' → tz D σ' H') : tSeq (tFor (iEnum K (tCons tl tNil)) (gTup K 2 (gCons (gName j) (gCons (gName l) gNil))) tu) tz D σ H :=
  c_forEn (D := { D with nx := tz D }) x0 h W h0 hb hs hd

/-! ### dicts of one's own: keys that are ints -/
theorem q_dnew (s0 : Stp B0 H0 B H) (k : ∀ p H1, H p = none → Ex H H1 → Stp B0 H0 B H1 → Cell H0 B H1 p (.dK []) → tz D (σ.set i (some (.ref p))) H1) : tSeq (tAsg tDNewK (gName i)) tz D σ H :=
  fun p hp => k p _ hp (Ex.new hp) (s0.goH (Ex.new hp)) ⟨fresh_back s0.eh hp, fresh_back s0.bh hp, upd_same⟩
def addK (ks : List Int) (x : Int) : List Int := if x ∈ ks then ks else ks ++ [x]
theorem keys_put {x : Int} {v : V} {kvs : List (Key × V)} {ks : List Int} (h : kvs.map (·.1) = ks.map Sum.inl) : (putK kvs (Sum.inl x) v).map (·.1) = (addK ks x).map Sum.inl := by
  unfold putK addK
  rw [valV_any, val_keys h]
  by_cases hx : x ∈ ks
  · rw [if_pos (decide_eq_true hx), if_pos hx, List.map_map, ← h]
    refine List.map_congr_left fun p _ => ?_
    show (if p.1 = Sum.inl x then (p.1, v) else p).1 = p.1
    split <;> rfl
  · rw [if_neg (by rw [decide_eq_false hx]; decide), if_neg hx, List.map_append, List.map_append, h]
    rfl
theorem c_dput {m : Addr} {kvs : List (Key × V)} {ks : List Int} {x : Int} {v : V} (c : Cell H0 B H m (.dK kvs)) (hk : kvs.map (·.1) = ks.map Sum.inl) (s0 : Stp B0 H0 B H) (hz : kvs.length < 100000)
    (hv : Ev te σ H v) (ho : σ[i]? = some (some (.ref m))) (hx : EvE eI ta σ B H x)
    (k : ∀ H1 kvs', Stp B0 H0 B H1 → Cell H0 B H1 m (.dK kvs') → kvs'.map (·.1) = (addK ks x).map Sum.inl → (∀ p o, p ≠ m → Cell H0 B H p o → Cell H0 B H1 p o) → D.nx σ H1) :
    sDPut (tVar i) ta te D σ H :=
  hv H (Ex.refl _) _ fun H1 e1 => ⟨.ref m, ho, ev_sI hx H1 e1 _ fun H2 e2 => ⟨m, _, rfl, DPut.k (k := Sum.inl x) (e2 _ _ (e1 _ _ c.h)) (sz_lt hz), by
    have e := e1.trans e2
    exact k _ _ ((c.go e).mut (s0.goH e)) (c.go e).same (keys_put hk) (fun p o ne d => (d.go e).other ne)⟩⟩
theorem q_dput {m : Addr} {kvs : List (Key × V)} {ks : List Int} {x : Int} {v : V} (c : Cell H0 B H m (.dK kvs)) (hk : kvs.map (·.1) = ks.map Sum.inl) (s0 : Stp B0 H0 B H) (hz : kvs.length < 100000)
    (hv : Ev te σ H v) (ho : σ[i]? = some (some (.ref m))) (hx : EvE eI ta σ B H x)
    (k : ∀ H1 kvs', Stp B0 H0 B H1 → Cell H0 B H1 m (.dK kvs') → kvs'.map (·.1) = (addK ks x).map Sum.inl → (∀ p o, p ≠ m → Cell H0 B H p o → Cell H0 B H1 p o) → tz D σ H1) :
    tSeq (sDPut (tVar i) ta te) tz D σ H := c_dput (D := { D with nx := tz D }) c hk s0 hz hv ho hx k
/-- {k: v} -/
theorem q_disp1 {x : Int} {v : V} (s0 : Stp B0 H0 B H) (hx : EvE eI ta σ B H x) (hv : Ev te σ H v) (k : ∀ p H1, H p = none → Ex H H1 → Stp B0 H0 B H1 → Cell H0 B H1 p (.dK [(Sum.inl x, v)]) → tz D (σ.set i (some (.ref p))) H1) :
    tSeq (tAsg (tDisp [(ta, te)]) (gName i)) tz D σ H := fun p hp => ev_sI hx _ (Ex.new hp) _ fun H1 e1 => hv H1 ((Ex.new hp).trans e1) _ fun H2 e2 =>
  ⟨e2 _ _ (e1 _ _ upd_same), [(Sum.inl x, v)], rfl, Nat.succ_le_succ (Nat.zero_le _), by
    have c : Cell H0 B H2 p (.dK []) := ⟨fresh_back s0.eh hp, fresh_back s0.bh hp, e2 _ _ (e1 _ _ upd_same)⟩
    have e : Ex H H2 := ((Ex.new hp).trans e1).trans e2
    exact k p _ hp (Ex.mut e hp) (c.mut (s0.goH e)) c.same⟩

/-! ### lists of one's own -/
/-- x = xs.pop() -/
theorem q_pop {l : Addr} {xs : List V} {y : V} {j : Nat} (c : Cell H0 B H l (.lst (xs ++ [y]))) (s0 : Stp B0 H0 B H) (ho : σ[i]? = some (some (.ref l)))
    (k : ∀ H1, Stp B0 H0 B H1 → Cell H0 B H1 l (.lst xs) → (∀ p o, p ≠ l → Cell H0 B H p o → Cell H0 B H1 p o) → tz D (σ.set j (some y)) H1) :
    tSeq (tAsg (tBM0 K "list" rPop (tVar i)) (gName j)) tz D σ H :=
  ⟨.ref l, ho, Or.inl ⟨rfl, _, SqL.of c.h⟩, l, xs ++ [y], y, rfl, rfl, c.h, by simp, by
    have e : (xs ++ [y]).dropLast = xs := by simp
    rw [e]
    exact k _ (c.mut s0) c.same (fun p o ne d => d.other ne)⟩
/-- xs[j] = e -/
theorem c_setL {l : Addr} {xs : List V} {j : Nat} {v : V} (c : Cell H0 B H l (.lst xs)) (s0 : Stp B0 H0 B H) (hv : Ev te σ H v) (ho : σ[i]? = some (some (.ref l))) (hj : EvE eI tb σ B H (j : Int)) (hz : j < xs.length)
    (k : ∀ H1, Stp B0 H0 B H1 → Cell H0 B H1 l (.lst (xs.set j v)) → (∀ p o, p ≠ l → Cell H0 B H p o → Cell H0 B H1 p o) → D.nx σ H1) : tAsg te (gSub (tVar i) tb rSetL) D σ H :=
  s_setL c.h hv (ev_var ho) (ev_sI hj) hz fun H1 e => k _ ((c.go e).mut (s0.goH e)) (c.go e).same (fun p o ne d => (d.go e).other ne)
theorem q_setL' {l : Addr} {xs : List V} {j : Nat} {v : V} (c : Cell H0 B H l (.lst xs)) (s0 : Stp B0 H0 B H) (hv : Ev te σ H v) (ho : σ[i]? = some (some (.ref l))) (hj : EvE eI tb σ B H (j : Int)) (hz : j < xs.length)
    (k : ∀ H1, Stp B0 H0 B H1 → Cell H0 B H1 l (.lst (xs.set j v)) → (∀ p o, p ≠ l → Cell H0 B H p o → Cell H0 B H1 p o) → tz D σ H1) : tSeq (tAsg te (gSub (tVar i) tb rSetL)) tz D σ H :=
  c_setL (D := { D with nx := tz D }) c s0 hv ho hj hz k
theorem c_rev {l : Addr} {xs : List V} (c : Cell H0 B H l (.lst xs)) (s0 : Stp B0 H0 B H) (ho : σ[i]? = some (some (.ref l)))
    (k : ∀ H1, Stp B0 H0 B H1 → Cell H0 B H1 l (.lst xs.reverse) → (∀ p o, p ≠ l → Cell H0 B H p o → Cell H0 B H1 p o) → D.nx σ H1) : tDrop (tBM0 K "list" rReverse (tVar i)) D σ H :=
  ⟨.ref l, ho, Or.inl ⟨rfl, _, SqL.of c.h⟩, l, xs, rfl, rfl, c.h, k _ (c.mut s0) c.same (fun p o ne d => d.other ne)⟩
theorem c_clear {l : Addr} {xs : List V} (c : Cell H0 B H l (.lst xs)) (s0 : Stp B0 H0 B H) (ho : σ[i]? = some (some (.ref l)))
    (k : ∀ H1, Stp B0 H0 B H1 → Cell H0 B H1 l (.lst []) → (∀ p o, p ≠ l → Cell H0 B H p o → Cell H0 B H1 p o) → D.nx σ H1) : tDrop (tBM0 K "list" rClear (tVar i)) D σ H :=
  ⟨.ref l, ho, Or.inl ⟨rfl, _, SqL.of c.h⟩, l, xs, rfl, rfl, c.h, k _ (c.mut s0) c.same (fun p o ne d => d.other ne)⟩
/-- a list of one's own, read -/
theorem cell_L {l : Addr} {vs : List V} {xs : List α} (c : Cell H0 B H l (.lst vs)) (hp : Paired (E.R H) vs xs) : (eL E).R H (.ref l) xs := ⟨l, vs, rfl, c.h, hp⟩
theorem cell_D {m : Addr} {kvs : List (Key × V)} {ks : List Int} (c : Cell H0 B H m (.dK kvs)) (hk : kvs.map (·.1) = ks.map Sum.inl) : eD.R H (.ref m) ks := ⟨m, kvs, rfl, c.h, hk⟩
/-- a new list of one's own becomes known -/
theorem cell_out {l : Addr} {vs : List V} {xs : List α} (c : Cell H0 B H l (.lst vs)) (s0 : Stp B0 H0 B H) (hp : Paired (E.R B) vs xs) : Stp B0 H0 (upd B l (.lst vs)) H ∧ (eL E).R (upd B l (.lst vs)) (.ref l) xs :=
  ⟨⟨s0.eb.trans (Ex.new c.b), s0.eh, fun a u q => by
    by_cases z : a = l
    · subst z
      rw [upd_same] at q
      cases q
      exact c.h
    · rw [upd_ne z] at q
      exact s0.bh a u q, fun a u q => by
    by_cases z : a = l
    · subst z
      exact .inr c.n
    · rw [upd_ne z] at q
      exact s0.nw a u q⟩, l, vs, rfl, upd_same, E.ups (Ex.new c.b) hp⟩
theorem cell_outD {m : Addr} {kvs : List (Key × V)} {ks : List Int} (c : Cell H0 B H m (.dK kvs)) (s0 : Stp B0 H0 B H) (hk : kvs.map (·.1) = ks.map Sum.inl) : Stp B0 H0 (upd B m (.dK kvs)) H ∧ eD.R (upd B m (.dK kvs)) (.ref m) ks :=
  ⟨⟨s0.eb.trans (Ex.new c.b), s0.eh, fun a u q => by
    by_cases z : a = m
    · subst z
      rw [upd_same] at q
      cases q
      exact c.h
    · rw [upd_ne z] at q
      exact s0.bh a u q, fun a u q => by
    by_cases z : a = m
    · subst z
      exact .inr c.n
    · rw [upd_ne z] at q
      exact s0.nw a u q⟩, m, kvs, rfl, upd_same, hk⟩
end
end RR
namespace RR
open PySem L2 Evl PyProof.Rows

/-! ### defs -/
def FunAt (K : PySem.W.Frag) (mg : Str → Option Value) (x : Str) (st : Stmt) : Prop := ∃ f fd, Fun K x x st f fd ∧ mg x = some (.ref f)
def DefOk (P : Program) (w : World) (K : PySem.W.Frag) (mg : Str → Option Value) (base : Heap) (k : Nat) (x : Str) (ps : List Str) (sp : Sp) : Prop :=
  ∃ f fd, FnOk P w K mg base CX0 k f fd ps sp ∧ mg x = some (.ref f) ∧ PySem.W.keepIn K (.ref f) = true ∧ Binds K fd ps []
def LenA (n : Nat) (A : Hp → List V → Prop) : Prop := ∀ B vs, A B vs → vs.length = n
theorem lenN : LenA 0 aN := fun _ _ h => by rw [show _ = [] from h]; rfl
theorem lenC {α : Type} {E : Enc α} {S : α → Prop} {A : Hp → List V → Prop} {n : Nat} (h : LenA n A) : LenA (n + 1) (aC E S A) := fun B vs ⟨v, x, r, e, _, _, ha⟩ => by
  rw [e, List.length_cons, h B r ha]
section
variable {P : Program} {w : World} {K : PySem.W.Frag} {mg : Str → Option Value} {base : Heap}
theorem mk_fn {ι β : Type} {A : ι → Hp → List V → Prop} {Pre : ι → Prop} {F : Enc β} {Post : ι → β → Prop} {x : Str} {st : Stmt} {N ps : List Str} {k : Nat} {f : Addr} {fd : FuncData} (F1 : Fun K x x st f fd) (S : FnScope N ps (defScope st))
    (hl : ∀ i, LenA ps.length (A i))
    (hbody : ∀ (cdv : Value) (A0 : Around) (outer : List Env) (s : Shared) (E : XK) (i : ι) (B H : Hp) (vs : List V) (Q : VK), Room k (A0.deeper (envOfC x (defScope st) s.heap.objs.size f cdv)) → Ex B H → A i B vs → Pre i →
      (∀ w y B2 H2, Stp B H B2 H2 → Post i y → F.R B2 w y → Q w H2) →
      ∃ t, PSs (cxOf CX0 P w K mg base N x (defScope st) f cdv A0 outer s H E).nox (defBody st) t ∧ t { nx := fun _ H' => Q .non H', rt := Q } (start N vs) H) : FnOk P w K mg base CX0 (k + 1) f fd ps (Spec A Pre F Post) := by
  refine F1.ok S (fun vs H Q E h => ?_) (fun cdv A0 outer s H vs Q E hr h => ?_)
  · obtain ⟨i, B, _, hA, _⟩ := h
    exact hl i B vs hA
  · obtain ⟨i, B, x0, hA, hp, q⟩ := h
    exact hbody cdv A0 outer s E i B H vs Q hr x0 hA hp q
theorem mk_def {ι β : Type} {A : ι → Hp → List V → Prop} {Pre : ι → Prop} {F : Enc β} {Post : ι → β → Prop} {x : Str} {st : Stmt} {N ps : List Str} {k : Nat} (F0 : FunAt K mg x st) (S : FnScope N ps (defScope st))
    (bi : ∀ (kV doc pm : Value) (an : Option Addr) (cdv ct : Value) (us : List Value), us.length = ps.length → bindArgs (PySem.W.fnOf x x (defArgs st) (defBody st) (defScope st) .none kV doc pm an cdv ct) ⟨us, []⟩ = pure (ps.zip us))
    (hl : ∀ i, LenA ps.length (A i))
    (hbody : ∀ (f : Addr) (cdv : Value) (A0 : Around) (outer : List Env) (s : Shared) (E : XK) (i : ι) (B H : Hp) (vs : List V) (Q : VK), Room k (A0.deeper (envOfC x (defScope st) s.heap.objs.size f cdv)) → Ex B H → A i B vs → Pre i →
      (∀ w y B2 H2, Stp B H B2 H2 → Post i y → F.R B2 w y → Q w H2) →
      ∃ t, PSs (cxOf CX0 P w K mg base N x (defScope st) f cdv A0 outer s H E).nox (defBody st) t ∧ t { nx := fun _ H' => Q .non H', rt := Q } (start N vs) H) : DefOk P w K mg base (k + 1) x ps (Spec A Pre F Post) := by
  obtain ⟨f, fd, F1, hm⟩ := F0
  refine ⟨f, fd, ?_, hm, F1.kp, F1.binds (ps := ps) bi⟩
  refine F1.ok S (fun vs H Q E h => ?_) (fun cdv A0 outer s H vs Q E hr h => ?_)
  · obtain ⟨i, B, _, hA, _⟩ := h
    exact hl i B vs hA
  · obtain ⟨i, B, x0, hA, hp, q⟩ := h
    exact hbody f cdv A0 outer s E i B H vs Q hr x0 hA hp q
theorem mk_defM {ι β : Type} {A : ι → Hp → List V → Prop} {Pre : ι → Prop} {F : Enc β} {Post : ι → List β → Prop} {x : Str} {st : Stmt} {N ps : List Str} {k : Nat} (F0 : FunAt K mg x st) (S : FnScope N ps (defScope st))
    (bi : ∀ (kV doc pm : Value) (an : Option Addr) (cdv ct : Value) (us : List Value), us.length = ps.length → bindArgs (PySem.W.fnOf x x (defArgs st) (defBody st) (defScope st) .none kV doc pm an cdv ct) ⟨us, []⟩ = pure (ps.zip us))
    (hl : ∀ i, LenA ps.length (A i))
    (hbody : ∀ (f : Addr) (cdv : Value) (A0 : Around) (outer : List Env) (s : Shared) (E : XK) (i : ι) (B H : Hp) (vs : List V) (Q : VK), Room k (A0.deeper (envOfC x (defScope st) s.heap.objs.size f cdv)) → Ex B H → A i B vs → Pre i →
      (∀ p ws ys B2 H2, Stp B H B2 H2 → H p = none → B2 p = none → H2 p = some (.lst ws) → Post i ys → Paired (F.R B2) ws ys → Q (.ref p) H2) →
      ∃ t, PSs (cxOf CX0 P w K mg base N x (defScope st) f cdv A0 outer s H E).nox (defBody st) t ∧ t { nx := fun _ H' => Q .non H', rt := Q } (start N vs) H) : DefOk P w K mg base (k + 1) x ps (SpecM A Pre F Post) := by
  obtain ⟨f, fd, F1, hm⟩ := F0
  refine ⟨f, fd, ?_, hm, F1.kp, F1.binds (ps := ps) bi⟩
  refine F1.ok S (fun vs H Q E h => ?_) (fun cdv A0 outer s H vs Q E hr h => ?_)
  · obtain ⟨i, B, _, hA, _⟩ := h
    exact hl i B vs hA
  · obtain ⟨i, B, x0, hA, hp, q⟩ := h
    exact hbody f cdv A0 outer s E i B H vs Q hr x0 hA hp q
end
section
variable {X : Cx} {k : Nat} {x : Str} {ps : List Str} {sp : Sp} {p pos : Pos} {e : Expr} {es : List Expr} {t : TA}
theorem pe_callD (D : DefOk X.prog X.w X.K X.mg X.base k x ps sp) (hr : Room k X.A) (hg : Gl X x) (ha : PA X (e :: es) t) (hdb : (x == ("__debug__" : Str)) = false := by decide)
    (he : starEach (e :: es) X.env = (false, eval e X.env) :: starEach es X.env := by rfl) (hpl : (backTo pos (starEach es X.env)).any (·.1) = false := by rfl) :
    PE X (.Call (.Name x p) (e :: es) [] pos) (tCall sp [] E0 t) := by
  obtain ⟨f, fd, G, hm, hk, hb⟩ := D
  exact pe_call G hr hg hm hk hb .nil pass0 ha hdb he hpl
end

/-! ### great ints -/
def CMulX (i j : Int) : Prop := i.natAbs.log2 + j.natAbs.log2 < 100000000
theorem CMulX.ok {i j : Int} (h : CMulX i j) : IntMulOk i j := by
  have b : ∀ x : Int, Builtin.Int.intBits x ≤ x.natAbs.log2 + 1 := fun x => by
    unfold Builtin.Int.intBits
    split <;> omega
  have h1 := b i
  have h2 := b j
  have h3 : i.natAbs.log2 + j.natAbs.log2 < 100000000 := h
  have e : bitsLine = 134217728 := by decide
  unfold IntMulOk
  intro z
  rw [Bool.and_eq_true] at z
  have z2 := z.2
  unfold Builtin.Int.intTooBig at z2
  have z3 := of_decide_eq_true z2
  rw [e] at z3
  omega
theorem op_mulX {X : Cx} : OpR X (binaryOp .Mult) (rI CMulX fun i j => .int (i * j)) := opI fun _ _ _ _ _ _ _ hc q => mul_int q hc.ok
/-- an int that is not too great -/
def Bd (n : Int) : Prop := n.natAbs.log2 ≤ 2000000
theorem log2_mono {a b : Nat} (h : a ≤ b) : a.log2 ≤ b.log2 := by
  by_cases h0 : a = 0
  · subst h0
    exact Nat.zero_le _
  · have hb : b ≠ 0 := by omega
    rw [Nat.le_log2 hb]
    exact Nat.le_trans (Nat.log2_self_le h0) h
theorem Bd.le {m n : Int} (h : Bd n) (e : m.natAbs ≤ n.natAbs) : Bd m := Nat.le_trans (log2_mono e) h
theorem Bd.div {n : Int} (h : Bd n) {j : Int} (hj : 0 < j) : Bd (n / j) := h.le (by
  have h1 := Int.emod_add_mul_ediv n j
  have h2 := Int.emod_nonneg n (show j ≠ 0 by omega)
  have h3 := Int.emod_lt_of_pos n hj
  by_cases hn : 0 ≤ n
  · have h4 : 0 ≤ n / j := Int.ediv_nonneg hn (by omega)
    have h5 : n / j ≤ n := Int.ediv_le_self j hn
    omega
  · have h4 : n / j < 0 := Int.ediv_neg_of_neg_of_pos (by omega) hj
    have h5 : n ≤ n / j := by
      have q : (n / j + 1) * j ≤ (n / j + 1) * 1 := Int.mul_le_mul_of_nonpos_left (by omega) (by omega)
      have q2 : (n / j + 1) * j = j * (n / j) + j := by rw [Int.add_mul, Int.one_mul, Int.mul_comm]
      omega
    omega)
theorem Bd.small {n : Int} (h : n.natAbs < 2 ^ 64) : Bd n := by
  unfold Bd
  by_cases h0 : n.natAbs = 0
  · rw [h0]
    decide
  · have := (Nat.log2_lt h0).mpr h
    omega
theorem Bd.bits {n : Int} (h : Builtin.Int.intBits n ≤ 1048576) : Bd n := by
  unfold Bd
  unfold Builtin.Int.intBits at h
  split at h
  · rename_i z
    have e : n.natAbs = 0 := by
      first
        | exact z
        | (simp at z; omega)
    rw [e]
    decide
  · omega
theorem Bd.mul {n j : Int} (h : Bd n) (hj : j.natAbs.log2 < 1000) : CMulX n j := by
  unfold CMulX
  unfold Bd at h
  omega

/-! ### the script: a list that H may only read -/
def eScr (K : PySem.W.Frag) : Enc (List Int) := ⟨fun H v ns => ∃ a, v = .ref a ∧ SqL K H a (ns.map V.int), fun e ⟨a, h1, h2⟩ => ⟨a, h1, ex_l e h2⟩⟩
section
variable {te ta tb tl : TE} {to1 to2 : TO} {σ : L2.St} {B H : Hp} {K : PySem.W.Frag}
theorem es_lenS {ns : List Int} (x0 : Ex B H) (h : EvE (eScr K) ta σ B H ns) : EvE eI (tCB (rLenS K) (tCons ta tNil)) σ B H (ns.length : Int) :=
  es_cb1 x0 h fun v B2 H2 x2 ⟨a, h1, h2⟩ Q k => ⟨a, _, by rw [h1], .inl (ex_l x2 h2), by rw [List.length_map]; exact k _ _ B2 H2 (Stp.refl x2) rfl rfl⟩
theorem es_ixS {ns : List Int} {i n : Int} (x0 : Ex B H) (ha : EvE (eScr K) ta σ B H ns) (hb : EvE eI tb σ B H i) (h0 : 0 ≤ i) (hx : ns[i.toNat]? = some n) : EvE eI (tOp (rIxL K) ta tb) σ B H n :=
  es_op x0 ha hb fun v w B2 H2 x2 ⟨a, h1, h2⟩ hw => ⟨.int n, rfl, fun Q q => ⟨a, _, i, .int n, h1, hw, ex_l x2 h2, atI_of h0 (by rw [List.getElem?_map, hx]; rfl), q⟩⟩
theorem em_slS {ns : List Int} {lo hi : Option Int} (x0 : Ex B H) (h : EvE (eScr K) te σ B H ns) (h1 : EvO to1 σ H lo) (h2 : EvO to2 σ H hi) : EvM eI (tSl (rSlL K) te to1 to2) σ B H (fun ys => ys = cutP ns lo hi) := fun H1 e Q k =>
  h H1 e _ fun v x' B2 H2 t hx hR => by
    cases hx
    obtain ⟨a, rfl, q2⟩ := hR
    refine h1 H2 (e.trans t.eh) _ fun H3 e3 => h2 H3 ((e.trans t.eh).trans e3) _ fun H4 e4 => ⟨a, _, rfl, ex_l ((t.bh.trans e3).trans e4) q2, fun p hp => ?_⟩
    have s := t.goH (e3.trans e4)
    refine k p _ _ B2 _ (s.goH (Ex.new hp)) (fresh_back s.eh hp) (fresh_back s.bh hp) upd_same rfl (pcut lo hi (pI' (H := B2) ns))
/-- the cell of the script at k, or nought -/
def cellM (ns : List Int) (k : Int) : Int := if k < (ns.length : Int) then ns.getD k.toNat 0 else 0
theorem cellM_bd {ns : List Int} (h : ∀ n ∈ ns, Bd n) (k : Int) : Bd (cellM ns k) := by
  unfold cellM
  split
  · rw [List.getD_eq_getElem?_getD]
    cases e : ns[k.toNat]? with
    | none => exact Bd.small (by decide)
    | some n => exact h n (List.mem_of_getElem? e)
  · exact Bd.small (by decide)
end
theorem cutP_mem {α : Type} {xs : List α} {lo hi : Option Int} {x : α} (h : x ∈ cutP xs lo hi) : x ∈ xs := by
  unfold cutP at h
  exact List.mem_of_mem_drop (List.mem_of_mem_take h)
theorem cutP_len {α : Type} (xs : List α) (lo hi : Option Int) : (cutP xs lo hi).length ≤ xs.length := by
  unfold cutP
  rw [List.length_take, List.length_drop]
  omega
/-! ### the numbers of those that a test takes -/
def sel {α : Type} (p : α → Bool) (xs : List α) (i : Nat) : List Int := ((List.range i).filter fun k => (xs[k]?).any p).map fun (k : Nat) => (k : Int)
theorem sel_zero {α : Type} (p : α → Bool) (xs : List α) : sel p xs 0 = [] := rfl
theorem sel_succ {α : Type} {p : α → Bool} {xs : List α} {i : Nat} {x : α} (h : xs[i]? = some x) : sel p xs (i + 1) = sel p xs i ++ if p x then [(i : Int)] else [] := by
  unfold sel
  rw [List.range_succ, List.filter_append, List.map_append]
  congr 1
  rw [List.filter_cons, h]
  cases hp : p x <;> simp [hp]
theorem sel_yes {α : Type} {p : α → Bool} {xs : List α} {i : Nat} {x : α} (h : xs[i]? = some x) (hp : p x = true) : sel p xs (i + 1) = sel p xs i ++ [(i : Int)] := by
  rw [sel_succ h, hp, if_pos rfl]
theorem sel_no {α : Type} {p : α → Bool} {xs : List α} {i : Nat} {x : α} (h : xs[i]? = some x) (hp : p x = false) : sel p xs (i + 1) = sel p xs i := by
  rw [sel_succ h, hp, if_neg Bool.false_ne_true, List.append_nil]
theorem sel_len {α : Type} (p : α → Bool) (xs : List α) (i : Nat) : (sel p xs i).length ≤ i := by
  unfold sel
  rw [List.length_map]
  have h := List.length_filter_le (fun k => (xs[k]?).any p) (List.range i)
  rw [List.length_range] at h
  exact h
theorem mem_sel {α : Type} {p : α → Bool} {xs : List α} {i : Nat} {k : Int} : k ∈ sel p xs i ↔ 0 ≤ k ∧ k < (i : Int) ∧ ∃ x, xs[k.toNat]? = some x ∧ p x = true := by
  unfold sel
  rw [List.mem_map]
  constructor
  · rintro ⟨a, ha, rfl⟩
    rw [List.mem_filter, List.mem_range] at ha
    obtain ⟨h1, h2⟩ := ha
    refine ⟨by omega, by omega, ?_⟩
    rw [Int.toNat_natCast]
    cases e : xs[a]? with
    | none =>
      rw [e] at h2
      cases h2
    | some x =>
      rw [e] at h2
      exact ⟨x, rfl, h2⟩
  · rintro ⟨h0, h1, x, hx, hp⟩
    refine ⟨k.toNat, ?_, by omega⟩
    rw [List.mem_filter, List.mem_range, hx]
    exact ⟨by omega, hp⟩
theorem map_snoc (xs : List Int) (x : Int) : (xs ++ [x]).map V.int = xs.map V.int ++ [V.int x] := by rw [List.map_append]; rfl
end RR
namespace RR
open PySem L2 Evl PyProof.Rows

/-! ### what stands for plain data -/
structure De {α : Type} (E : Enc α) (n : Nat) where
  d : α → PyData
  ok : ∀ {K : PySem.W.Frag} {H : Hp} {v : V} {x : α}, E.R H v x → Dp K H v (d x)
  lay : ∀ x, (d x).canLay0 = true
  dep : ∀ x, (d x).depth ≤ n
section
variable {α β γ : Type} {E : Enc α} {F : Enc β} {G : Enc γ} {n m l : Nat}
def deI : De eI 0 := ⟨fun i => .int i, fun h => by cases h; exact .int _, fun _ => rfl, fun _ => Nat.le_refl _⟩
def deB : De eB 0 := ⟨fun i => .bool i, fun h => by cases h; exact .bl _, fun _ => rfl, fun _ => Nat.le_refl _⟩
def dO : Option Int → PyData
  | none => .none
  | some i => .int i
def deO : De eO 0 := ⟨dO, fun {K H v x} h => by
  cases x with
  | none => cases h; exact .non
  | some i => cases h; exact .int _, fun x => by cases x <;> rfl, fun x => by cases x <;> exact Nat.le_refl _⟩
theorem dp_all (D : De E n) {K : PySem.W.Frag} {H : Hp} : ∀ {vs : List V} {xs : List α}, Paired (E.R H) vs xs → DpAll K H vs (xs.map D.d)
  | _, _, .nil => .nil
  | _, _, .cons r t => .cons (D.ok r) (dp_all D t)
theorem lay_all (D : De E n) : ∀ xs : List α, PyData.canLayAll0 (xs.map D.d) = true
  | [] => rfl
  | x :: r => by
    rw [List.map_cons]
    show (PyData.canLay0 (D.d x) && PyData.canLayAll0 (r.map D.d)) = true
    rw [D.lay x, lay_all D r]
    rfl
theorem dep_all (D : De E n) : ∀ xs : List α, PyData.depthAll (xs.map D.d) ≤ n
  | [] => Nat.zero_le _
  | x :: r => by
    rw [List.map_cons]
    show max (PyData.depth (D.d x)) (PyData.depthAll (r.map D.d)) ≤ n
    have h1 := D.dep x
    have h2 := dep_all D r
    omega
def deL (D : De E n) : De (eL E) (n + 1) := ⟨fun xs => .list (xs.map D.d), fun ⟨a, vs, h1, h2, h3⟩ => by
  subst h1
  exact .lst (SqL.of h2) (dp_all D h3), fun xs => lay_all D xs, fun xs => Nat.succ_le_succ (dep_all D xs)⟩
def deT (D : De E n) : De (eT E) (n + 1) := ⟨fun xs => .tuple (xs.map D.d), fun ⟨a, vs, h1, h2, h3⟩ => by
  subst h1
  exact .tup (SqT.of h2) (dp_all D h3), fun xs => lay_all D xs, fun xs => Nat.succ_le_succ (dep_all D xs)⟩
def de2 (D : De E n) (D' : De F m) : De (e2 E F) (n + m + 1) := ⟨fun x => .tuple [D.d x.1, D'.d x.2], fun ⟨a, u, w, h1, h2, h3, h4⟩ => by
  subst h1
  exact .tup (SqT.of h2) (.cons (D.ok h3) (.cons (D'.ok h4) .nil)), fun x => by
    show (PyData.canLay0 (D.d x.1) && (PyData.canLay0 (D'.d x.2) && true)) = true
    rw [D.lay, D'.lay]
    rfl, fun x => by
    show max (PyData.depth (D.d x.1)) (max (PyData.depth (D'.d x.2)) 0) + 1 ≤ n + m + 1
    have h1 := D.dep x.1
    have h2 := D'.dep x.2
    omega⟩
def de3 (D : De E n) (D' : De F m) (D'' : De G l) : De (e3 E F G) (n + m + l + 1) := ⟨fun x => .tuple [D.d x.1, D'.d x.2.1, D''.d x.2.2], fun ⟨a, u, w, z, h1, h2, h3, h4, h5⟩ => by
  subst h1
  exact .tup (SqT.of h2) (.cons (D.ok h3) (.cons (D'.ok h4) (.cons (D''.ok h5) .nil))), fun x => by
    show (PyData.canLay0 (D.d x.1) && (PyData.canLay0 (D'.d x.2.1) && (PyData.canLay0 (D''.d x.2.2) && true))) = true
    rw [D.lay, D'.lay, D''.lay]
    rfl, fun x => by
    show max (PyData.depth (D.d x.1)) (max (PyData.depth (D'.d x.2.1)) (max (PyData.depth (D''.d x.2.2)) 0)) + 1 ≤ n + m + l + 1
    have h1 := D.dep x.1
    have h2 := D'.dep x.2.1
    have h3 := D''.dep x.2.2
    omega⟩
abbrev deR : De eR 1 := de3 deI deI deI
theorem De.sh (D : De E n) (h : n ≤ 64) (x : α) : SeqAt.shaped (D.d x) = true := by
  show ((D.d x).canLay0 && decide ((D.d x).depth ≤ 64)) = true
  rw [D.lay x, decide_eq_true (Nat.le_trans (D.dep x) h)]
  rfl
theorem De.refl (D : De E n) (x : α) : PyData.eqv (D.d x) (D.d x) = true := SeqAt.eqv_refl _ (D.lay x)
end

section
variable {α β γ δ ε : Type} {E : Enc α} {F : Enc β} {G : Enc γ} {n m : Nat}
variable {te ta tb tc tl : TE} {tt : TT} {σ : L2.St} {B H B0 H0 B1 H1 : Hp} {S : α → Prop} {K : PySem.W.Frag} {D : Ends} {tu tw tz : TS} {i : Nat}
theorem es_eqD {x : α} {y : β} (De1 : De E n) (De2 : De F m) (hn : n ≤ 64) (hm : m ≤ 64) (x0 : Ex B H) (ha : EvE E ta σ B H x) (hb : EvE F tb σ B H y) : EvE eB (tOp (rEqD K) ta tb) σ B H (PyData.eqv (De1.d x) (De2.d y)) :=
  es_op x0 ha hb fun v w B2 H2 x2 hv hw => ⟨_, rfl, fun Q q => ⟨_, _, De1.ok (E.up x2 hv), De2.ok (F.up x2 hw), De1.sh hn x, De2.sh hm y, q⟩⟩
theorem es_neD {x : α} {y : β} (De1 : De E n) (De2 : De F m) (hn : n ≤ 64) (hm : m ≤ 64) (x0 : Ex B H) (ha : EvE E ta σ B H x) (hb : EvE F tb σ B H y) : EvE eB (tOp (rNeD K) ta tb) σ B H (!PyData.eqv (De1.d x) (De2.d y)) :=
  es_op x0 ha hb fun v w B2 H2 x2 hv hw => ⟨_, rfl, fun Q q => ⟨_, _, De1.ok (E.up x2 hv), De2.ok (F.up x2 hw), De1.sh hn x, De2.sh hm y, q⟩⟩
theorem es_eqSame {x : α} (De1 : De E n) (hn : n ≤ 64) (x0 : Ex B H) (ha : EvE E ta σ B H x) (hb : EvE E tb σ B H x) : EvE eB (tOp (rEqD K) ta tb) σ B H true := (es_eqD De1 De1 hn hn x0 ha hb).to (De1.refl x)
theorem es_neSame {x : α} (De1 : De E n) (hn : n ≤ 64) (x0 : Ex B H) (ha : EvE E ta σ B H x) (hb : EvE E tb σ B H x) : EvE eB (tOp (rNeD K) ta tb) σ B H false := (es_neD De1 De1 hn hn x0 ha hb).to (by rw [De1.refl x]; rfl)

/-! ### isinstance -/
theorem es_isi {c a : String} {b : Bool} (x0 : Ex B H) (ha : EvS E ta σ B H S) (ty : ∀ x v B2 H2, Ex B2 H2 → S x → E.R B2 v x → TyX K H2 v (.type a)) (h : kitB a c = some b) : EvE eB (tCB (rIsi K) (tCons ta (tCons (tC (.ty c)) tNil))) σ B H b := fun H1 e Q k =>
  ha H1 e _ fun v x B2 H2 t hS hR => ⟨v, .ty c, _, _, b, rfl, .ty c, ty x v B2 H2 t.bh hS hR, kit_ty h, k _ _ B2 H2 t rfl rfl⟩
theorem es_isiI {c : String} {b : Bool} {S : Int → Prop} (x0 : Ex B H) (ha : EvS eI ta σ B H S) (h : kitB "int" c = some b) : EvE eB (tCB (rIsi K) (tCons ta (tCons (tC (.ty c)) tNil))) σ B H b :=
  es_isi x0 ha (fun x v B2 H2 _ _ hR => by cases hR; exact .base (.int _)) h
theorem es_isiB {c : String} {b : Bool} {S : Bool → Prop} (x0 : Ex B H) (ha : EvS eB ta σ B H S) (h : kitB "bool" c = some b) : EvE eB (tCB (rIsi K) (tCons ta (tCons (tC (.ty c)) tNil))) σ B H b :=
  es_isi x0 ha (fun x v B2 H2 _ _ hR => by cases hR; exact .base (.bl _)) h
theorem es_isiN {c : String} {b : Bool} (x0 : Ex B H) (ha : EvE eO ta σ B H none) (h : kitB "NoneType" c = some b) : EvE eB (tCB (rIsi K) (tCons ta (tCons (tC (.ty c)) tNil))) σ B H b :=
  es_isi x0 ha (fun x v B2 H2 _ hS hR => by cases hS; cases hR; exact .base .non) h
theorem es_isiL {c : String} {b : Bool} {S : List α → Prop} (x0 : Ex B H) (ha : EvS (eL E) ta σ B H S) (h : kitB "list" c = some b) : EvE eB (tCB (rIsi K) (tCons ta (tCons (tC (.ty c)) tNil))) σ B H b :=
  es_isi x0 ha (fun x v B2 H2 x2 _ ⟨a, vs, h1, h2, _⟩ => by subst h1; exact .base (.lst (x2 _ _ h2))) h
theorem es_isiT {c : String} {b : Bool} {S : List α → Prop} (x0 : Ex B H) (ha : EvS (eT E) ta σ B H S) (h : kitB "tuple" c = some b) : EvE eB (tCB (rIsi K) (tCons ta (tCons (tC (.ty c)) tNil))) σ B H b :=
  es_isi x0 ha (fun x v B2 H2 x2 _ ⟨a, vs, h1, h2, _⟩ => by subst h1; exact .base (.tup (x2 _ _ h2))) h
theorem es_isi2 {c : String} {b : Bool} {S : α × β → Prop} (x0 : Ex B H) (ha : EvS (e2 E F) ta σ B H S) (h : kitB "tuple" c = some b) : EvE eB (tCB (rIsi K) (tCons ta (tCons (tC (.ty c)) tNil))) σ B H b :=
  es_isi x0 ha (fun x v B2 H2 x2 _ ⟨a, u, w, h1, h2, _⟩ => by subst h1; exact .base (.tup (x2 _ _ h2))) h
theorem es_isi3 {c : String} {b : Bool} {S : α × β × γ → Prop} (x0 : Ex B H) (ha : EvS (e3 E F G) ta σ B H S) (h : kitB "tuple" c = some b) : EvE eB (tCB (rIsi K) (tCons ta (tCons (tC (.ty c)) tNil))) σ B H b :=
  es_isi x0 ha (fun x v B2 H2 x2 _ ⟨a, u, w, z, h1, h2, _⟩ => by subst h1; exact .base (.tup (x2 _ _ h2))) h
theorem k_ii : kitB "int" "int" = some true := by decide +kernel
theorem k_ib : kitB "int" "bool" = some false := by decide +kernel
theorem k_ll : kitB "list" "list" = some true := by decide +kernel
theorem k_tt : kitB "tuple" "tuple" = some true := by decide +kernel
theorem k_bb : kitB "bool" "bool" = some true := by decide +kernel
theorem k_bi : kitB "bool" "int" = some true := by decide +kernel
theorem k_ni : kitB "NoneType" "int" = some false := by decide +kernel
theorem k_nb : kitB "NoneType" "bool" = some false := by decide +kernel
theorem k_nl : kitB "NoneType" "list" = some false := by decide +kernel
/-- isinstance(x, int) and not isinstance(x, bool) of an int; the other way round -/
theorem et_whole {S : Int → Prop} (x0 : Ex B H) (ha : EvS eI ta σ B H S) (hb : EvS eI tb σ B H S) :
    EvT (tOr (tNot (tB (tCB (rIsi K) (tCons ta (tCons (tC (.ty "int")) tNil))))) (tB (tCB (rIsi K) (tCons tb (tCons (tC (.ty "bool")) tNil))))) σ H false :=
  et_or (et_not (et_sB (es_isiI x0 ha k_ii))) fun _ => et_sB (es_isiI x0 hb k_ib)

/-! ### ends, ifs -/
theorem c_ret {T : β → Prop} (s : Stp B0 H0 B H) (h : EvS F te σ B H T) (k : ∀ w y B2 H2, Stp B0 H0 B2 H2 → T y → F.R B2 w y → D.rt w H2) : tRet te D σ H := by
  exact h H (Ex.refl _) _ fun w y B2 H2 t hT hR => k w y B2 H2 (s.trans t) hT hR
theorem c_retM {T : List β → Prop} (s : Stp B0 H0 B H) (h : EvM F te σ B H T) (k : ∀ p ws ys B2 H2, Stp B0 H0 B2 H2 → H0 p = none → B2 p = none → H2 p = some (.lst ws) → T ys → Paired (F.R B2) ws ys → D.rt (.ref p) H2) : tRet te D σ H :=
  h H (Ex.refl _) _ fun p ws ys B2 H2 t hp bp hl hT hR => k p ws ys B2 H2 (s.trans t) (fresh_back s.eh hp) bp hl hT hR
theorem set_same {ξ : Type} {xs : List ξ} {i : Nat} {a : ξ} (h : xs[i]? = some a) : xs.set i a = xs := by
  obtain ⟨h1, h2⟩ := List.getElem?_eq_some_iff.mp h
  rw [← h2]
  exact List.set_getElem_self h1
/-- if c: x = e, an int -/
theorem q_ifSetI {b : Bool} {T : Int → Prop} (ht : EvT tt σ H b) (x0 : Ex B H) (h1 : b = true → EvS eI te σ B H T) (h2 : b = false → ∃ n, σ[i]? = some (some (.int n)) ∧ T n) (k : ∀ n B1 H1, Stp B H B1 H1 → T n → tz D (σ.set i (some (.int n))) H1) :
    tSeq (tIfS tt (tAsg te (gName i)) tNext) tz D σ H :=
  q_when ht (fun hb H1 e => (h1 hb).up (Stp.go x0 e) H1 (Ex.refl _) _ fun v n B1 H2 s hT hR => by
    cases hR
    exact k n B1 H2 ((Stp.go x0 e).trans s) hT) (fun hb H1 e => by
    obtain ⟨n, hn, hT⟩ := h2 hb
    have q := k n B H1 (Stp.go x0 e) hT
    rw [set_same hn] at q
    exact q)
/-- a list, a dict of one's own becomes known -/
theorem cell_pub {a : Addr} {vs : List V} {xs : List α} (c : Cell H0 B H a (.lst vs)) (s0 : Stp B0 H0 B H) (hp : Paired (E.R B) vs xs) :
    ∃ B1, Stp B0 H0 B1 H ∧ Ex B B1 ∧ (eL E).R B1 (.ref a) xs ∧ ∀ p o, p ≠ a → Cell H0 B H p o → Cell H0 B1 H p o := by
  obtain ⟨t, r⟩ := cell_out (E := E) c s0 hp
  exact ⟨_, t, Ex.new c.b, r, fun p o ne d => ⟨d.n, by rw [upd_ne ne]; exact d.b, d.h⟩⟩
theorem cell_pubD {a : Addr} {kvs : List (Key × V)} {ks : List Int} (c : Cell H0 B H a (.dK kvs)) (s0 : Stp B0 H0 B H) (hk : kvs.map (·.1) = ks.map Sum.inl) :
    ∃ B1, Stp B0 H0 B1 H ∧ Ex B B1 ∧ eD.R B1 (.ref a) ks ∧ ∀ p o, p ≠ a → Cell H0 B H p o → Cell H0 B1 H p o := by
  obtain ⟨t, r⟩ := cell_outD c s0 hk
  exact ⟨_, t, Ex.new c.b, r, fun p o ne d => ⟨d.n, by rw [upd_ne ne]; exact d.b, d.h⟩⟩
/-- an item of a list, any -/
theorem es_ixLM {xs : List α} {j : Int} (x0 : Ex B H) (ha : EvE (eL E) ta σ B H xs) (hb : EvE eI tb σ B H j) (h0 : 0 ≤ j) (h1 : j < (xs.length : Int)) : EvS E (tOp (rIxL K) ta tb) σ B H (fun x => x ∈ xs) := by
  have hj : j.toNat < xs.length := by omega
  refine (es_ixL (x := xs[j.toNat]) x0 ha hb h0 (List.getElem?_eq_getElem hj)).imp fun y hy => ?_
  subst hy
  exact List.getElem_mem hj
theorem pair_all {P : β → Prop} {R : α → β → Prop} (h : ∀ x y, R x y → P y) : ∀ {xs : List α} {ys : List β}, Paired R xs ys → ∀ y ∈ ys, P y
  | _, _, .nil, _, m => by cases m
  | _, _, .cons r t, y, m => by
    rcases List.mem_cons.mp m with e | m
    · subst e
      exact h _ _ r
    · exact pair_all h t y m
theorem pair_len {R : α → β → Prop} {xs : List α} {ys : List β} (h : Paired R xs ys) : ys.length = xs.length := (Paired.length h).symm
end
/-! ### s + d round m -/
theorem emod_add_lt {s d m : Int} (h0 : 0 ≤ s) (h1 : s < m) (h2 : 0 ≤ d) (h3 : d < m) : (s + d) % m = if s + d < m then s + d else s + d - m := by
  split
  · exact Int.emod_eq_of_lt (by omega) (by omega)
  · have e : (s + d) % m = (s + d - m) % m := by rw [Int.sub_emod_right]
    rw [e]
    exact Int.emod_eq_of_lt (by omega) (by omega)
/-- a road between two of so many places -/
def OkR (m : Int) (r : Road) : Prop := 0 ≤ r.1 ∧ r.1 < m ∧ 0 ≤ r.2.1 ∧ r.2.1 < m ∧ r.1 ≠ r.2.1 ∧ 0 ≤ r.2.2 ∧ r.2.2 < 10000000000000000000000000000000000000000
end RR
namespace RR
open PySem L2 Evl PyProof.Rows
section
variable {α β γ δ ε : Type} {E : Enc α} {F : Enc β} {G : Enc γ} {n m : Nat}
variable {te ta tb tc tl : TE} {tt : TT} {σ : L2.St} {B H B0 H0 B1 H1 : Hp} {S : α → Prop} {K : PySem.W.Frag} {D : Ends} {tu tw tz : TS} {i : Nat}
theorem es_andV {a b : Bool} (x0 : Ex B H) (ha : EvE eB ta σ B H a) (hb : a = true → EvE eB tb σ B H b) : EvE eB (tAndV ta tb) σ B H (a && b) := es_evB x0 (ev_andV (ev_sB ha) fun h => ev_sB (hb h))
theorem es_orV {a b : Bool} (x0 : Ex B H) (ha : EvE eB ta σ B H a) (hb : a = false → EvE eB tb σ B H b) : EvE eB (tOrV ta tb) σ B H (a || b) := es_evB x0 (ev_orV (ev_sB ha) fun h => ev_sB (hb h))
theorem es_notV {a : Bool} (x0 : Ex B H) (ha : EvE eB ta σ B H a) : EvE eB (tNotV ta) σ B H (!a) := es_evB x0 (ev_notV (ev_sB ha))
theorem es_len3 {t : α × β × γ} (x0 : Ex B H) (h : EvE (e3 E F G) ta σ B H t) : EvE eI (tCB (rLenS K) (tCons ta tNil)) σ B H 3 :=
  es_cb1 x0 h fun v B2 H2 x2 ⟨a, u, w, z, h1, h2, _⟩ Q k => ⟨a, _, by rw [h1], .inr (SqT.of (x2 _ _ h2)), k _ _ B2 H2 (Stp.refl x2) rfl rfl⟩
theorem es_len2 {t : α × β} (x0 : Ex B H) (h : EvE (e2 E F) ta σ B H t) : EvE eI (tCB (rLenS K) (tCons ta tNil)) σ B H 2 :=
  es_cb1 x0 h fun v B2 H2 x2 ⟨a, u, w, h1, h2, _⟩ Q k => ⟨a, _, by rw [h1], .inr (SqT.of (x2 _ _ h2)), k _ _ B2 H2 (Stp.refl x2) rfl rfl⟩
/-- xs.append(n), an int: nothing more is known -/
theorem c_appI {l : Addr} {xs : List V} {n : Int} (c : Cell H0 B H l (.lst xs)) (s0 : Stp B0 H0 B H) (ho : σ[i]? = some (some (.ref l))) (hz : xs.length < 100000) (h : EvE eI te σ B H n)
    (k : ∀ H1, Stp B0 H0 B H1 → Cell H0 B H1 l (.lst (xs ++ [.int n])) → (∀ p o, p ≠ l → Cell H0 B H p o → Cell H0 B H1 p o) → D.nx σ H1) :
    tDrop (tBM K "list" rAppend (tVar i) (tCons te tNil)) D σ H :=
  ⟨.ref l, ho, Or.inl ⟨rfl, xs, SqL.of c.h⟩, ev_sI h H (Ex.refl _) _ fun H1 e => ⟨l, xs, .int n, rfl, rfl, e _ _ c.h, sz_lt hz,
    k _ ((c.go e).mut (s0.goH e)) (c.go e).same (fun p o ne d => (d.go e).other ne)⟩⟩
/-- a list as a test -/
theorem et_truL {xs : List α} (h : ∃ v, Ev ta σ H v ∧ (eL E).R H v xs) : EvT (fun σ H Q => ta σ H fun x H' => ∃ k, TruV K x H' k ∧ Q k H') σ H (!xs.isEmpty) := fun H1 e Q q => by
  obtain ⟨v, hv, a, vs, h1, h2, h3⟩ := h
  subst h1
  refine hv H1 e _ fun H2 e2 => ⟨!xs.isEmpty, .inl ⟨vs, SqL.of (e2 _ _ (e _ _ h2)), ?_⟩, q H2 e2⟩
  have hl := pl h3
  cases xs <;> cases vs <;> first | rfl | cases hl
theorem e2_H {H : Hp} {v : V} {x : Int × Int} (h : (e2 eI eI).R H v x) : eH.R H v x := by
  obtain ⟨a, u, w, h1, h2, h3, h4⟩ := h
  cases h3
  cases h4
  exact ⟨a, [], h1, h2⟩
theorem e2s_H {H : Hp} {v : V} {xs : List (Int × Int)} (h : (eL (e2 eI eI)).R H v xs) : (eL eH).R H v xs := by
  obtain ⟨a, vs, h1, h2, h3⟩ := h
  exact ⟨a, vs, h1, h2, pmap (fun _ _ => e2_H) h3⟩
/-- sorted of a dict's keys -/
def rSortD : List V → Hp → VK → Prop := fun xs H Q => ∃ (a : Addr) (kvs : List (Key × V)) (ks : List Int), xs = [V.ref a] ∧ Rd H a (.dK kvs) ∧ kvs.map (·.1) = ks.map Sum.inl ∧ ks.length < 64 ∧
  ∀ (ys : List Int) (p : Addr), ys.Perm ks → ys.Pairwise (· ≤ ·) → H p = none → Q (.ref p) (upd H p (.lst (ys.map V.int)))
theorem cl_sortedD {X : Cx} (h : X.calm = true) : CallR X (.builtin "sorted") rSortD := call_sortedDI h
/-- rising, no two alike -/
def Up (ys : List Int) : Prop := ys.Pairwise (· < ·)
theorem up_of {ys ks : List Int} (hp : ys.Perm ks) (hs : ys.Pairwise (· ≤ ·)) (hn : ks.Nodup) : Up ys := by
  have hn2 : ys.Nodup := hp.nodup_iff.mpr hn
  clear hp
  induction ys with
  | nil => exact List.Pairwise.nil
  | cons a r ih =>
    obtain ⟨h1, h2⟩ := List.pairwise_cons.mp hs
    obtain ⟨h3, h4⟩ := List.nodup_cons.mp hn2
    refine List.pairwise_cons.mpr ⟨fun b hb => ?_, ih h2 h4⟩
    have h5 := h1 b hb
    have h6 : a ≠ b := fun q => h3 (q ▸ hb)
    omega
theorem up_ext : ∀ {xs ys : List Int}, Up xs → Up ys → (∀ v, v ∈ xs ↔ v ∈ ys) → xs = ys
  | [], [], _, _, _ => rfl
  | [], y :: ys, _, _, h => by
    have := (h y).mpr List.mem_cons_self
    cases this
  | x :: xs, [], _, _, h => by
    have := (h x).mp List.mem_cons_self
    cases this
  | x :: xs, y :: ys, hx, hy, h => by
    obtain ⟨h1, h2⟩ := List.pairwise_cons.mp hx
    obtain ⟨h3, h4⟩ := List.pairwise_cons.mp hy
    have e : x = y := by
      rcases List.mem_cons.mp ((h x).mp List.mem_cons_self) with q | q
      · exact q
      · rcases List.mem_cons.mp ((h y).mpr List.mem_cons_self) with z | z
        · exact z.symm
        · have a1 := h3 x q
          have a2 := h1 y z
          omega
    subst e
    rw [up_ext h2 h4 fun v => ?_]
    constructor
    · intro hv
      rcases List.mem_cons.mp ((h v).mp (List.mem_cons_of_mem _ hv)) with q | q
      · subst q
        have := h1 v hv
        omega
      · exact q
    · intro hv
      rcases List.mem_cons.mp ((h v).mpr (List.mem_cons_of_mem _ hv)) with q | q
      · subst q
        have := h3 v hv
        omega
      · exact q
theorem up_rg (n : Int) : Up (rg n) := by
  unfold rg Up
  rw [List.pairwise_map]
  exact List.pairwise_lt_range.imp fun h => by omega
theorem up_filter {ys : List Int} (p : Int → Bool) (h : Up ys) : Up (ys.filter p) := List.Pairwise.sublist List.filter_sublist h
theorem up_nodup {ys : List Int} (h : Up ys) : ys.Nodup := List.Pairwise.imp (fun h => by omega) h
theorem em_sortD {ks : List Int} (x0 : Ex B H) (h : EvE eD ta σ B H ks) (hz : ks.length < 64) (hn : ks.Nodup) : EvM eI (tCB rSortD (tCons ta tNil)) σ B H (fun ys => Up ys ∧ ∀ v, v ∈ ys ↔ v ∈ ks) :=
  em_cb1 x0 h fun v B2 H2 x2 ⟨a, kvs, h1, h2, h3⟩ Q k => ⟨a, kvs, ks, by rw [h1], .inl (x2 _ _ h2), h3, hz, fun ys p hp hs hq => k p _ ⟨ys, ⟨up_of hp hs hn, fun v => hp.mem_iff⟩, pI' ys⟩ hq⟩
theorem em_sortDS {T : List Int → Prop} (x0 : Ex B H) (h : EvS eD ta σ B H T) (hz : ∀ ks, T ks → ks.length < 64 ∧ ks.Nodup) : EvM eI (tCB rSortD (tCons ta tNil)) σ B H (fun ys => Up ys ∧ ∃ ks, T ks ∧ ∀ v, v ∈ ys ↔ v ∈ ks) := fun H1 e Q k =>
  h H1 e _ fun v ks B2 H2 t hT ⟨a, kvs, h1, h2, h3⟩ => ⟨a, kvs, ks, by rw [h1], .inl (t.bh _ _ h2), h3, (hz ks hT).1, fun ys p hp hs hq =>
    k p _ ys B2 _ (t.goH (Ex.new hq)) (fresh_back t.eh hq) (fresh_back t.bh hq) upd_same ⟨up_of hp hs (hz ks hT).2, ks, hT, fun v => hp.mem_iff⟩ (pI' ys)⟩
/-- tuple(..) of what is known in part -/
theorem es_tupLS {T : List α → Prop} (x0 : Ex B H) (h : EvS (eL E) ta σ B H T) : EvS (eT E) (tCB (rTupS' K) (tCons ta tNil)) σ B H T := fun H1 e Q k =>
  h H1 e _ fun v xs B2 H2 t hT ⟨a, vs, h1, h2, h3⟩ => ⟨a, vs, by rw [h1], .inl ⟨SqL.of (t.bh _ _ h2), fun l hl => k (.ref l) xs (upd B2 l (.tup vs)) _ (t.trans (Stp.new t.bh hl)) hT ⟨l, vs, rfl, upd_same, E.ups (Ex.new (fresh_back t.bh hl)) h3⟩⟩⟩
/-- a module's number -/
theorem pe_gI {X : Cx} {x : Str} {n : Int} {pos : Pos} (hg : Gl X x) (h : ∃ t, X.mg x = some (.int n t)) (hd : (x == ("__debug__" : Str)) = false := by decide) : PE X (.Name x pos) (tC (.int n)) := by
  obtain ⟨t, h⟩ := h
  exact pe_glob hg h ⟨t, rfl⟩ hd
end

/-! ### rules with K told apart (within a comprehension) -/
section
variable {X : Cx} {K : PySem.W.Frag}
theorem k_in (h : X.K = K) : OpR X (compareOp .In) (rIn K false) := h ▸ op_in_seq
theorem k_notin (h : X.K = K) : OpR X (compareOp .NotIn) (rIn K true) := h ▸ op_notIn_seq
theorem k_ixl (h : X.K = K) : IxR X (rIxL K) := h ▸ ix_list
theorem k_ixt (h : X.K = K) : IxR X (rIxT K) := h ▸ ix_tup
theorem k_sll (h : X.K = K) : SlR X (rSlL K) := h ▸ sl_list
theorem k_len (h : X.K = K) : CallR X (.builtin "len") (rLenS K) := h ▸ cl_len
theorem k_list (h : X.K = K) : CallR X (.type "list") (rListS' K) := h ▸ cl_list
theorem k_tuple (h : X.K = K) : CallR X (.type "tuple") (rTupS' K) := h ▸ cl_tuple
theorem k_sum (c : X.calm = true) (h : X.K = K) : CallR X (.builtin "sum") (rSum K) := h ▸ cr_sum c
theorem k_min (c : X.calm = true) (h : X.K = K) : CallR X (.builtin "min") (rMin K) := h ▸ cr_min c
theorem k_max (c : X.calm = true) (h : X.K = K) : CallR X (.builtin "max") (rMax K) := h ▸ cr_max c
theorem k_isi (h : X.K = K) : CallR X (.builtin "isinstance") (rIsi K) := h ▸ call_isi
theorem k_eqD (hu : X.A.units + 64 < cLine) (h : X.K = K) : OpR X (compareOp .Eq) (rEqD K) := h ▸ op_eqD hu
theorem k_neD (hu : X.A.units + 64 < cLine) (h : X.K = K) : OpR X (compareOp .NotEq) (rNeD K) := h ▸ op_neD hu
end

/-! ### what can be come to -/
inductive Rch (es : List (Int × Int)) (s : Int) : Int → Prop
  | refl : Rch es s s
  | step {v w : Int} : Rch es s v → (v, w) ∈ es → Rch es s w
theorem Rch.trans {es : List (Int × Int)} {a b c : Int} (h : Rch es a b) (k : Rch es b c) : Rch es a c := by
  induction k with
  | refl => exact h
  | step _ e ih => exact .step ih e
theorem Rch.head {es : List (Int × Int)} {a b c : Int} (h : (a, b) ∈ es) (k : Rch es b c) : Rch es a c := Rch.trans (.step .refl h) k
theorem Rch.closed {es : List (Int × Int)} {s v : Int} {P : Int → Prop} (h : Rch es s v) (h0 : P s) (hc : ∀ a b, (a, b) ∈ es → P a → P b) : P v := by
  induction h with
  | refl => exact h0
  | step _ e ih => exact hc _ _ e ih
theorem Rch.mono {es fs : List (Int × Int)} {s v : Int} (h : Rch es s v) (k : ∀ e ∈ es, e ∈ fs) : Rch fs s v := by
  induction h with
  | refl => exact .refl
  | step _ e ih => exact .step ih (k _ e)
/-- the roads turned round -/
def turned (es : List (Int × Int)) : List (Int × Int) := es.map fun e => (e.2, e.1)
theorem mem_turned {es : List (Int × Int)} {a b : Int} : (a, b) ∈ turned es ↔ (b, a) ∈ es := by
  unfold turned
  rw [List.mem_map]
  constructor
  · rintro ⟨⟨x, y⟩, h, e⟩
    cases e
    exact h
  · intro h
    exact ⟨(b, a), h, rfl⟩
theorem rch_turned {es : List (Int × Int)} {a b : Int} : Rch (turned es) a b ↔ Rch es b a := by
  constructor
  · intro h
    induction h with
    | refl => exact .refl
    | step _ e ih => exact Rch.head (mem_turned.mp e) ih
  · intro h
    induction h with
    | refl => exact .refl
    | step _ e ih => exact Rch.head (mem_turned.mpr e) ih
def ends (rs : List Road) : List (Int × Int) := rs.map fun r => (r.1, r.2.1)
theorem mem_ends {rs : List Road} {a b : Int} : (a, b) ∈ ends rs ↔ ∃ r ∈ rs, r.1 = a ∧ r.2.1 = b := by
  unfold ends
  rw [List.mem_map]
  constructor
  · rintro ⟨r, h, e⟩
    cases e
    exact ⟨r, h, rfl, rfl⟩
  · rintro ⟨r, h, rfl, rfl⟩
    exact ⟨r, h, rfl⟩
/-- within nought and m -/
def InE (m : Int) (es : List (Int × Int)) : Prop := ∀ e ∈ es, 0 ≤ e.1 ∧ e.1 < m ∧ 0 ≤ e.2 ∧ e.2 < m
theorem Rch.inE {es : List (Int × Int)} {m s v : Int} (h : Rch es s v) (hs : 0 ≤ s ∧ s < m) (he : InE m es) : 0 ≤ v ∧ v < m :=
  h.closed (P := fun v => 0 ≤ v ∧ v < m) hs fun a b q _ => ⟨(he _ q).2.2.1, (he _ q).2.2.2⟩
/-- different numbers below n are at most n -/
theorem nodup_le : ∀ {n : Nat} {ks : List Int}, ks.Nodup → (∀ k ∈ ks, 0 ≤ k ∧ k < (n : Int)) → ks.length ≤ n
  | 0, [], _, _ => Nat.le_refl _
  | 0, k :: _, _, h => by
    have := h k List.mem_cons_self
    omega
  | n + 1, ks, hn, h => by
    have ih := nodup_le (n := n) (hn.erase (n : Int)) fun k hk => by
      have h1 := (hn.mem_erase_iff).mp hk
      have h2 := h k h1.2
      have h3 := h1.1
      omega
    rw [List.length_erase] at ih
    split at ih <;> omega
structure Net (m : Int) (rs : List Road) : Prop where
  lo : 1 ≤ m
  hi : m ≤ 12
  len : rs.length ≤ 60
  ok : ∀ r ∈ rs, OkR m r
theorem Net.inE {m : Int} {rs : List Road} (h : ∀ r ∈ rs, OkR m r) : InE m (ends rs) := by
  rintro ⟨a, b⟩ he
  obtain ⟨r, hr, rfl, rfl⟩ := mem_ends.mp he
  obtain ⟨h1, h2, h3, h4, _⟩ := h r hr
  exact ⟨h1, h2, h3, h4⟩
theorem InE.turned {m : Int} {es : List (Int × Int)} (h : InE m es) : InE m (turned es) := by
  rintro ⟨a, b⟩ he
  obtain ⟨h1, h2, h3, h4⟩ := h _ (mem_turned.mp he)
  exact ⟨h3, h4, h1, h2⟩
end RR
namespace RR
open PySem L2 Evl PyProof.Rows
/-! ### marks: going along the roads again and again -/
def Mk (bs : List Bool) (v : Int) : Prop := bs[v.toNat]? = some true
def Shut (rs : List Road) (bs : List Bool) : Prop := ∀ r ∈ rs, Mk bs r.1 → Mk bs r.2.1
structure Sound (m : Int) (rs : List Road) (root : Int) (bs : List Bool) : Prop where
  len : bs.length = m.toNat
  snd : ∀ v, 0 ≤ v → Mk bs v → Rch (ends rs) root v
  rt : Mk bs root
def cnt (bs : List Bool) : Nat := bs.count true
theorem cnt_le (bs : List Bool) : cnt bs ≤ bs.length := List.count_le_length
theorem cnt_set : ∀ {bs : List Bool} {i : Nat}, bs[i]? = some false → cnt (bs.set i true) = cnt bs + 1
  | [], i, h => by simp at h
  | b :: r, 0, h => by
    simp at h
    subst h
    simp [cnt]
  | b :: r, i + 1, h => by
    have ih := cnt_set (bs := r) (i := i) (by simpa using h)
    unfold cnt at ih ⊢
    rw [List.set_cons_succ, List.count_cons, List.count_cons, ih]
    omega
theorem mk_set {bs : List Bool} {i : Nat} {v : Int} (hi : i < bs.length) : Mk (bs.set i true) v ↔ (v.toNat = i ∨ Mk bs v) := by
  unfold Mk
  rw [List.getElem?_set]
  by_cases h : i = v.toNat
  · subst h
    rw [if_pos rfl, if_pos hi]
    simp
  · rw [if_neg h]
    have h' : ¬ v.toNat = i := fun q => h q.symm
    simp [h']
theorem Sound.set {m : Int} {rs : List Road} {root : Int} {bs : List Bool} {r : Road} (h : Sound m rs root bs) (hr : r ∈ rs) (ho : OkR m r) (h1 : Mk bs r.1) : Sound m rs root (bs.set r.2.1.toNat true) := by
  obtain ⟨k1, k2, k3, k4, _⟩ := ho
  have hi : r.2.1.toNat < bs.length := by rw [h.len]; omega
  refine ⟨by rw [List.length_set]; exact h.len, fun v hv hm => ?_, (mk_set hi).mpr (.inr h.rt)⟩
  rcases (mk_set hi).mp hm with e | hm
  · have e2 : v = r.2.1 := by omega
    rw [e2]
    exact .step (h.snd r.1 k1 h1) (mem_ends.mpr ⟨r, hr, rfl, rfl⟩)
  · exact h.snd v hv hm
theorem Sound.all {m : Int} {rs : List Road} {root : Int} {bs : List Bool} (h : Sound m rs root bs) (hs : Shut rs bs) {v : Int} (hv : 0 ≤ v) : Mk bs v ↔ Rch (ends rs) root v := by
  refine ⟨h.snd v hv, fun r => r.closed (P := fun v => Mk bs v) h.rt fun a b e ha => ?_⟩
  obtain ⟨r, hr, rfl, rfl⟩ := mem_ends.mp e
  exact hs r hr ha
/-- within a turn that began with b0, behind i of the roads -/
def Within (rs : List Road) (b0 : List Bool) (i : Nat) (bs : List Bool) : Prop := (bs = b0 ∧ ∀ j r, j < i → rs[j]? = some r → Mk b0 r.1 → Mk b0 r.2.1) ∨ (cnt b0 < cnt bs ∧ ¬ Shut rs b0)
theorem within_start (rs : List Road) (b0 : List Bool) : Within rs b0 0 b0 := .inl ⟨rfl, fun _ _ h => absurd h (Nat.not_lt_zero _)⟩
theorem within_no {rs : List Road} {b0 bs : List Bool} {i : Nat} {r : Road} (h : Within rs b0 i bs) (hr : rs[i]? = some r) (hn : ¬ Mk bs r.1) : Within rs b0 (i + 1) bs := by
  rcases h with ⟨e, h⟩ | h
  · subst e
    refine .inl ⟨rfl, fun j z hj hz hm => ?_⟩
    by_cases q : j = i
    · subst q
      rw [hr] at hz
      cases hz
      exact absurd hm hn
    · exact h j z (by omega) hz hm
  · exact .inr h
theorem within_yes {rs : List Road} {b0 bs : List Bool} {i : Nat} {r : Road} (h : Within rs b0 i bs) (hr : rs[i]? = some r) (hi : r.2.1.toNat < bs.length) (h1 : Mk bs r.1) : Within rs b0 (i + 1) (bs.set r.2.1.toNat true) := by
  cases hb : bs[r.2.1.toNat] with
  | true =>
    have hb' : bs[r.2.1.toNat]? = some true := by rw [List.getElem?_eq_getElem hi, hb]
    rw [set_same hb']
    rcases h with ⟨e, h⟩ | h
    · subst e
      refine .inl ⟨rfl, fun j z hj hz hm => ?_⟩
      by_cases q : j = i
      · subst q
        rw [hr] at hz
        cases hz
        exact hb'
      · exact h j z (by omega) hz hm
    · exact .inr h
  | false =>
    have hb' : bs[r.2.1.toNat]? = some false := by rw [List.getElem?_eq_getElem hi, hb]
    have hc := cnt_set hb'
    rcases h with ⟨e, h⟩ | ⟨h, hs⟩
    · subst e
      refine .inr ⟨by omega, fun sh => ?_⟩
      have := sh r (List.mem_of_getElem? hr) h1
      unfold Mk at this
      rw [hb'] at this
      cases this
    · exact .inr ⟨by omega, hs⟩
/-- behind t turns -/
def Turned (rs : List Road) (t : Nat) (bs : List Bool) : Prop := Shut rs bs ∨ t + 1 ≤ cnt bs
theorem turned_next {rs : List Road} {t : Nat} {b0 bs : List Bool} (h : Turned rs t b0) (w : Within rs b0 rs.length bs) : Turned rs (t + 1) bs := by
  rcases w with ⟨e, w⟩ | ⟨w, hs⟩
  · subst e
    refine .inl fun r hr hm => ?_
    obtain ⟨j, hj⟩ := List.mem_iff_getElem?.mp hr
    exact w j r (List.getElem?_eq_some_iff.mp hj).1 hj hm
  · rcases h with h | h
    · exact absurd h hs
    · exact .inr (by omega)
theorem turned_end {rs : List Road} {bs : List Bool} {t : Nat} (h : Turned rs t bs) (hl : bs.length = t) : Shut rs bs := by
  rcases h with h | h
  · exact h
  · have := cnt_le bs
    omega
theorem cnt_pos {bs : List Bool} {v : Int} (h : Mk bs v) : 1 ≤ cnt bs := List.count_pos_iff.mpr (List.mem_of_getElem? h)
/-- the first marks -/
theorem marks0 {m root : Int} {rs : List Road} (h0 : 0 ≤ root) (h1 : root < m) : Sound m rs root ((rg m).map fun k => decide (k = root)) := by
  have hg : ∀ v : Int, 0 ≤ v → (Mk ((rg m).map fun k => decide (k = root)) v ↔ v = root ∧ v < m) := fun v hv => by
    unfold Mk
    by_cases hm : v < m
    · rw [List.getElem?_map, rg_get (by omega), Int.toNat_of_nonneg hv]
      simp [hm]
    · rw [List.getElem?_eq_none (by rw [List.length_map, rg_len]; omega)]
      simp [hm]
  refine ⟨by rw [List.length_map, rg_len], fun v hv hm => ?_, (hg root h0).mpr ⟨rfl, h1⟩⟩
  rw [((hg v hv).mp hm).1]
  exact .refl
theorem mapB (bs : List Bool) (i : Nat) (b : Bool) : (bs.set i b).map V.bl = (bs.map V.bl).set i (V.bl b) := by rw [List.map_set]
theorem pB {H : Hp} : ∀ {vs : List V} {bs : List Bool}, Paired (eB.R H) vs bs → vs = bs.map V.bl
  | _, _, .nil => rfl
  | _, _, .cons r t => by
    rw [pB t, show _ = V.bl _ from r]
    rfl
theorem pB' {H : Hp} : ∀ (bs : List Bool), Paired (eB.R H) (bs.map V.bl) bs
  | [] => .nil
  | _ :: r => .cons rfl (pB' r)
/-- (root + a) round m and (root + k) round m -/
theorem round_ne {m r a k : Int} (h0 : 0 ≤ r) (h1 : r < m) (ha : 0 ≤ a) (hak : a < k) (hk : k < m) : 0 ≤ (r + a) % m ∧ (r + a) % m < m ∧ 0 ≤ (r + k) % m ∧ (r + k) % m < m ∧ (r + a) % m ≠ (r + k) % m := by
  rw [emod_add_lt h0 h1 ha (by omega), emod_add_lt h0 h1 (by omega) hk]
  split <;> split <;> omega
end RR
namespace RR
open PySem L2 Evl PyProof.Rows
section
variable {α β γ δ ε : Type} {E : Enc α} {F : Enc β} {G : Enc γ} {n m : Nat}
variable {te ta tb tc tl : TE} {tt : TT} {σ : L2.St} {B H B0 H0 B1 H1 : Hp} {K : PySem.W.Frag} {D : Ends} {tu tw tz : TS} {i : Nat}
theorem em_catS {S T : List α → Prop} (x0 : Ex B H) (ha : EvS (eL E) ta σ B H S) (hb : EvS (eL E) tb σ B H T) (hz : ∀ xs ys, S xs → T ys → xs.length + ys.length ≤ 100000) : EvM E (tOp rCat ta tb) σ B H (fun zs => ∃ xs ys, S xs ∧ T ys ∧ zs = xs ++ ys) := fun H1 e Q k =>
  ha H1 e _ fun v xs B2 H2 t hx hR =>
    hb.up ((Stp.go x0 e).trans t) H2 (Ex.refl _) _ fun w ys B3 H3 t2 hy hR2 => by
      obtain ⟨a, vs, rfl, q2, q3⟩ := hR
      obtain ⟨b, ws, rfl, q5, q6⟩ := hR2
      refine ⟨a, b, vs, ws, rfl, rfl, t2.bh _ _ (t2.eb _ _ q2), t2.bh _ _ q5, sz_of (by rw [pl q3, pl q6]; exact hz xs ys hx hy), fun p hp => ?_⟩
      have s := t.trans t2
      exact k p _ _ B3 _ (s.goH (Ex.new hp)) (fresh_back s.eh hp) (fresh_back s.bh hp) upd_same ⟨xs, ys, hx, hy, rfl⟩ (papp (E.ups t2.eb q3) q6)
theorem cutP_from (xs : List α) {c : Int} (h0 : 0 ≤ c) (h1 : c ≤ (xs.length : Int)) : cutP xs (some c) none = xs.drop c.toNat := by
  unfold cutP HT.sIx
  simp only
  have e : (if c < 0 then (c + (xs.length : Int)).toNat else min c.toNat xs.length) = c.toNat := by
    rw [if_neg (by omega)]
    omega
  first
    | (rw [e]; exact List.take_of_length_le (by rw [List.length_drop]; omega))
    | (simp [h0]; omega)
theorem cutP_to (xs : List α) {c : Int} (h0 : 0 ≤ c) (h1 : c ≤ (xs.length : Int)) : cutP xs none (some c) = xs.take c.toNat := by
  unfold cutP HT.sIx
  simp only
  have e : (if c < 0 then (c + (xs.length : Int)).toNat else min c.toNat xs.length) = c.toNat := by
    rw [if_neg (by omega)]
    omega
  first
    | (rw [e]; simp)
    | simp
theorem cutP_seg (xs : List α) {a b : Int} (ha : 0 ≤ a) (hb : 0 ≤ b) : (cutP xs (some a) (some b)).length ≤ (b - a).toNat := by
  unfold cutP HT.sIx
  simp only
  rw [List.length_take, List.length_drop]
  have e : ∀ c : Int, 0 ≤ c → (if c < 0 then (c + (xs.length : Int)).toNat else min c.toNat xs.length) = min c.toNat xs.length := fun c hc => if_neg (by omega)
  rw [e a ha, e b hb]
  omega
end
end RR
namespace RR
open PySem L2 Evl PyProof.Rows
def topS (i : Nat) : Stmt := PySem.Challenge.pw_rootroads_k02_come_to_and_cut_off.main.body.getD i (.Pass ⟨0, 0, 0, 0⟩)
abbrev s_is_whole : Stmt := topS 8
abbrev N_is_whole : List Str := ["thing"]
theorem sc_is_whole : FnScope N_is_whole ["thing"] (defScope s_is_whole) := ⟨rfl, rfl, rfl, by decide +kernel, rfl, by decide +kernel, by decide +kernel⟩
abbrev s_is_place : Stmt := topS 9
abbrev N_is_place : List Str := ["many", "thing"]
theorem sc_is_place : FnScope N_is_place ["many", "thing"] (defScope s_is_place) := ⟨rfl, rfl, rfl, by decide +kernel, rfl, by decide +kernel, by decide +kernel⟩
abbrev s_is_road : Stmt := topS 10
abbrev N_is_road : List Str := ["many", "thing"]
theorem sc_is_road : FnScope N_is_road ["many", "thing"] (defScope s_is_road) := ⟨rfl, rfl, rfl, by decide +kernel, rfl, by decide +kernel, by decide +kernel⟩
abbrev s_checked : Stmt := topS 11
abbrev N_checked : List Str := ["many", "roads", "road"]
theorem sc_checked : FnScope N_checked ["many", "roads"] (defScope s_checked) := ⟨rfl, rfl, rfl, by decide +kernel, rfl, by decide +kernel, by decide +kernel⟩
abbrev s_need_place : Stmt := topS 12
abbrev N_need_place : List Str := ["many", "place"]
theorem sc_need_place : FnScope N_need_place ["many", "place"] (defScope s_need_place) := ⟨rfl, rfl, rfl, by decide +kernel, rfl, by decide +kernel, by decide +kernel⟩
abbrev s_led : Stmt := topS 13
abbrev N_led : List Str := ["starts", "roads", "met", "place", "waiting", "road"]
theorem sc_led : FnScope N_led ["starts", "roads"] (defScope s_led) := ⟨rfl, rfl, rfl, by decide +kernel, rfl, by decide +kernel, by decide +kernel⟩
abbrev s_reached : Stmt := topS 14
abbrev N_reached : List Str := ["many", "roads", "root"]
theorem sc_reached : FnScope N_reached ["many", "roads", "root"] (defScope s_reached) := ⟨rfl, rfl, rfl, by decide +kernel, rfl, by decide +kernel, by decide +kernel⟩
abbrev s_cut_off : Stmt := topS 15
abbrev N_cut_off : List Str := ["many", "roads", "root", "met", "place"]
theorem sc_cut_off : FnScope N_cut_off ["many", "roads", "root"] (defScope s_cut_off) := ⟨rfl, rfl, rfl, by decide +kernel, rfl, by decide +kernel, by decide +kernel⟩
abbrev s__law_cell_at : Stmt := topS 17
abbrev N__law_cell_at : List Str := ["_law_script", "_law_k"]
theorem sc__law_cell_at : FnScope N__law_cell_at ["_law_script", "_law_k"] (defScope s__law_cell_at) := ⟨rfl, rfl, rfl, by decide +kernel, rfl, by decide +kernel, by decide +kernel⟩
abbrev s__law_mixed : Stmt := topS 18
abbrev N__law_mixed : List Str := ["_law_cell", "_law_k"]
theorem sc__law_mixed : FnScope N__law_mixed ["_law_cell", "_law_k"] (defScope s__law_mixed) := ⟨rfl, rfl, rfl, by decide +kernel, rfl, by decide +kernel, by decide +kernel⟩
abbrev s__law_cost : Stmt := topS 19
abbrev N__law_cost : List Str := ["_law_cell"]
theorem sc__law_cost : FnScope N__law_cost ["_law_cell"] (defScope s__law_cost) := ⟨rfl, rfl, rfl, by decide +kernel, rfl, by decide +kernel, by decide +kernel⟩
abbrev s__law_road : Stmt := topS 20
abbrev N__law_road : List Str := ["_law_cell", "_law_many_here", "_law_start", "_law_end"]
theorem sc__law_road : FnScope N__law_road ["_law_cell", "_law_many_here"] (defScope s__law_road) := ⟨rfl, rfl, rfl, by decide +kernel, rfl, by decide +kernel, by decide +kernel⟩
abbrev s__law_many : Stmt := topS 21
abbrev N__law_many : List Str := ["_law_cell"]
theorem sc__law_many : FnScope N__law_many ["_law_cell"] (defScope s__law_many) := ⟨rfl, rfl, rfl, by decide +kernel, rfl, by decide +kernel, by decide +kernel⟩
abbrev s__law_roads : Stmt := topS 22
abbrev N__law_roads : List Str := ["_law_script", "_law_many_here", "_law_root", "_law_most", "_law_roads_here", "_law_count", "_law_k", "_law_number", "_law_start", "_law_cut", "_law_cell"]
theorem sc__law_roads : FnScope N__law_roads ["_law_script", "_law_many_here", "_law_root", "_law_most"] (defScope s__law_roads) := ⟨rfl, rfl, rfl, by decide +kernel, rfl, by decide +kernel, by decide +kernel⟩
abbrev s__law_met : Stmt := topS 23
abbrev N__law_met : List Str := ["_law_many_here", "_law_roads_here", "_law_root", "_law_met_here", "_law_turn", "_law_road_here", "_law_place"]
theorem sc__law_met : FnScope N__law_met ["_law_many_here", "_law_roads_here", "_law_root"] (defScope s__law_met) := ⟨rfl, rfl, rfl, by decide +kernel, rfl, by decide +kernel, by decide +kernel⟩
abbrev s__law_numbers : Stmt := topS 24
abbrev N__law_numbers : List Str := ["_law_found", "_law_due", "_law_place"]
theorem sc__law_numbers : FnScope N__law_numbers ["_law_found", "_law_due"] (defScope s__law_numbers) := ⟨rfl, rfl, rfl, by decide +kernel, rfl, by decide +kernel, by decide +kernel⟩
abbrev s_law : Stmt := topS 25
abbrev N_law : List Str := ["_law_script", "_law_many_here", "_law_root", "_law_roads_here", "_law_handed", "_law_due", "_law_others", "_law_coming", "_law_place", "_law_road_here"]
theorem sc_law : FnScope N_law ["_law_script"] (defScope s_law) := ⟨rfl, rfl, rfl, by decide +kernel, rfl, by decide +kernel, by decide +kernel⟩
structure Txt (K : PySem.W.Frag) (mg : Str → Option Value) : Prop where
  b_bool : mg "bool" = none
  b_int : mg "int" = none
  b_isinstance : mg "isinstance" = none
  b_len : mg "len" = none
  b_list : mg "list" = none
  b_range : mg "range" = none
  b_sorted : mg "sorted" = none
  b_tuple : mg "tuple" = none
  c_MOST_PLACES : ∃ t, mg "MOST_PLACES" = some (.int 12 t)
  c_MOST_ROADS : ∃ t, mg "MOST_ROADS" = some (.int 60 t)
  c_DEAREST : ∃ t, mg "DEAREST" = some (.int 10000000000000000000000000000000000000000 t)
section
variable {P : Program} {w : World} {K : PySem.W.Frag} {mg : Str → Option Value} {base : Heap}

abbrev sp_cell (K : PySem.W.Frag) : Sp := Spec (ar2 (eScr K) eI) (fun i => 0 ≤ i.2) eI (fun i y => y = cellM i.1 i.2)
theorem d__law_cell_at (F0 : FunAt K mg "_law_cell_at" s__law_cell_at) (T : Txt K mg)  : DefOk P w K mg base 1 "_law_cell_at" ["_law_script", "_law_k"] (sp_cell K) := by
  refine mk_def (k := 0) F0 sc__law_cell_at (fun _ _ _ _ _ _ us hl => match us, hl with | [_, _], _ => rfl) (fun _ => (lenC (lenC lenN))) ?_
  intro f cdv A0 outer s E i B H vs Q hr x0 hA hp q
  obtain ⟨v0, _, _, rfl, rfl, h0, v1, _, _, rfl, rfl, h1, rfl⟩ := hA
  obtain ⟨y0, y1⟩ := i
  (try dsimp only at h0); (try dsimp only at h1); (try dsimp only at hp); (try dsimp only at q)
  refine ⟨_, (pss_cons (ps_if (pt_cmpR op_lt (pv 1) (pe_callB (k_len (K := K) rfl) (by rfl) T.b_len (by decide +kernel) (pa_cons (pv 0) pa_nil)) (nomark _)) (pss_one (ps_ret (pe_ix (k_ixl (K := K) rfl) (pv 0) (pv 1) (fun _ _ => rfl)))) pss_nil)
      (pss_one (ps_ret pe_int))), ?_⟩
  cases h1
  refine q_when (et_sT (es_opB x0 (es_varI (i := 1) x0 rfl) (es_lenS x0 (es_var x0 rfl h0)))) (fun hb H1 e => ?_) (fun hb H1 e => ?_)
  · have hlt : y1 < (y0.length : Int) := of_decide_eq_true hb
    have hn : y1.toNat < y0.length := by omega
    have xz := x0.trans e
    refine c_ret (Stp.go x0 e) (es_ixS xz (es_var xz rfl h0) (es_varI (i := 1) xz rfl) hp (List.getElem?_eq_getElem hn)) fun w y B2 H2 s hy hR => q w y B2 H2 s ?_ hR
    rw [hy]
    unfold cellM
    rw [if_pos hlt, List.getD_eq_getElem?_getD, List.getElem?_eq_getElem hn]
    rfl
  · have hlt : ¬ y1 < (y0.length : Int) := of_decide_eq_false hb
    refine c_ret (Stp.go x0 e) (es_int (x0.trans e)) fun w y B2 H2 s hy hR => q w y B2 H2 s ?_ hR
    rw [hy]
    unfold cellM
    rw [if_neg hlt]

def mixedM (c k : Int) : Int := (c * 16807 + k * k * 7919 + k * 48271 + 11) % 2147483647
theorem mixedM_b (c k : Int) : 0 ≤ mixedM c k ∧ mixedM c k < 2147483647 := ⟨Int.emod_nonneg _ (by decide), Int.emod_lt_of_pos _ (by decide)⟩
theorem mixedM_bd (c k : Int) : Bd (mixedM c k) := Bd.small (by have := mixedM_b c k; omega)
abbrev sp_mixed : Sp := Spec (ar2 eI eI) (fun i => -1000 ≤ i.2 ∧ i.2 ≤ 1000) eI (fun i y => y = mixedM i.1 i.2)
theorem d__law_mixed (F0 : FunAt K mg "_law_mixed" s__law_mixed) (T : Txt K mg)  : DefOk P w K mg base 1 "_law_mixed" ["_law_cell", "_law_k"] sp_mixed := by
  refine mk_def (k := 0) F0 sc__law_mixed (fun _ _ _ _ _ _ us hl => match us, hl with | [_, _], _ => rfl) (fun _ => (lenC (lenC lenN))) ?_
  intro f cdv A0 outer s E i B H vs Q hr x0 hA hp q
  obtain ⟨v0, _, _, rfl, rfl, h0, v1, _, _, rfl, rfl, h1, rfl⟩ := hA
  obtain ⟨y0, y1⟩ := i
  (try dsimp only at h0); (try dsimp only at h1); (try dsimp only at hp); (try dsimp only at q)
  refine ⟨_, (pss_one (ps_ret (pe_op op_mod (pe_op op_add (pe_op op_add (pe_op op_add (pe_op op_mul (pv 0) pe_int) (pe_op op_mul (pe_op op_mul (pv 1) (pv 1)) pe_int)) (pe_op op_mul (pv 1) pe_int)) pe_int) pe_int))), ?_⟩
  cases h0
  cases h1
  exact c_ret (Stp.refl x0) (es_opC x0 (es_opI x0 (es_opI x0 (es_opI x0 (es_opC x0 (es_varI x0 rfl) (es_int x0) (.inr ⟨by decide, by decide⟩)) (es_opC x0 (es_opC x0 (es_varI x0 rfl) (es_varI x0 rfl) (.inl ⟨by omega, by omega⟩)) (es_int x0) (.inr ⟨by decide, by decide⟩))) (es_opC x0 (es_varI x0 rfl) (es_int x0) (.inr ⟨by decide, by decide⟩))) (es_int x0)) (es_int x0) (by first | (show (0 : Int) < _; omega) | (show (0 : Int) < _; decide +kernel))) q

abbrev sp_cost : Sp := Spec (ar1 eI) (fun i => Bd i) eI (fun _ y => 0 ≤ y ∧ y < 10000000000000000000000000000000000000000)
theorem d__law_cost (F0 : FunAt K mg "_law_cost" s__law_cost) (T : Txt K mg)  : DefOk P w K mg base 1 "_law_cost" ["_law_cell"] sp_cost := by
  refine mk_def (k := 0) F0 sc__law_cost (fun _ _ _ _ _ _ us hl => match us, hl with | [_], _ => rfl) (fun _ => (lenC lenN)) ?_
  intro f cdv A0 outer s E i B H vs Q hr x0 hA hp q
  obtain ⟨v0, y0, _, rfl, rfl, h0, rfl⟩ := hA
  refine ⟨_, (pss_cons (ps_if (pt_cmpR op_eq (pe_op op_mod (pv 0) pe_int) pe_int (nomark _)) (pss_one (ps_ret (pe_op op_sub (pe_op op_sub (pe_op op_pow pe_int pe_int) pe_int) (pe_op op_mod (pe_op op_fdiv (pv 0) pe_int) pe_int)))) pss_nil)
      (pss_one (ps_ret (pe_ix (k_ixl (K := K) rfl) (pe_lst (pa_cons (pe_op op_mod (pe_op op_fdiv (pv 0) pe_int) pe_int) (pa_cons (pe_op op_mod (pe_op op_fdiv (pv 0) pe_int) pe_int) (pa_cons (pe_op op_mod (pe_op op_mul (pe_op op_fdiv (pv 0) pe_int) pe_int) pe_int) (pa_cons (pe_op op_mod (pe_op op_mulX (pe_op op_fdiv (pv 0) pe_int) (pe_op op_pow pe_int pe_int)) (pe_op op_pow pe_int pe_int)) pa_nil))))) (pe_op op_mod (pv 0) pe_int) (fun _ _ => rfl))))), ?_⟩
  cases h0
  refine q_when (et_sT (es_eqI x0 (es_opC x0 (es_varI x0 rfl) (es_int x0) (by first | (show (0 : Int) < _; omega) | (show (0 : Int) < _; decide +kernel))) (es_int x0))) (fun hb H1 e => ?_) (fun hb H1 e => ?_)
  · refine c_ret (Stp.go x0 e) (es_opI (x0.trans e) (es_opI (x0.trans e) (es_opC (x0.trans e) (es_int (x0.trans e)) (es_int (x0.trans e)) (⟨by decide, by decide, by decide⟩)) (es_int (x0.trans e))) (es_opC (x0.trans e) (es_opC (x0.trans e) (es_varI (x0.trans e) rfl) (es_int (x0.trans e)) (⟨by omega, by omega⟩)) (es_int (x0.trans e)) (by first | (show (0 : Int) < _; omega) | (show (0 : Int) < _; decide +kernel)))) fun w y B2 H2 s hy hR => q w y B2 H2 s ?_ hR
    rw [hy]
    have h3 : (10 : Int) ^ (40 : Int).toNat = 10000000000000000000000000000000000000000 := by decide +kernel
    rw [h3]
    omega
  · refine c_ret (Stp.go x0 e) (es_ixLM (x0.trans e) (em_lst (ea_cons' (x0.trans e) (es_opC (x0.trans e) (es_opC (x0.trans e) (es_varI (x0.trans e) rfl) (es_int (x0.trans e)) (⟨by omega, by omega⟩)) (es_int (x0.trans e)) (by first | (show (0 : Int) < _; omega) | (show (0 : Int) < _; decide +kernel))) (ea_cons' (x0.trans e) (es_opC (x0.trans e) (es_opC (x0.trans e) (es_varI (x0.trans e) rfl) (es_int (x0.trans e)) (⟨by omega, by omega⟩)) (es_int (x0.trans e)) (by first | (show (0 : Int) < _; omega) | (show (0 : Int) < _; decide +kernel))) (ea_cons' (x0.trans e) (es_opC (x0.trans e) (es_opC (x0.trans e) (es_opC (x0.trans e) (es_varI (x0.trans e) rfl) (es_int (x0.trans e)) (⟨by omega, by omega⟩)) (es_int (x0.trans e)) (.inr ⟨by decide, by decide⟩)) (es_int (x0.trans e)) (by first | (show (0 : Int) < _; omega) | (show (0 : Int) < _; decide +kernel))) (ea_cons' (x0.trans e) (es_opC (x0.trans e) (es_opC (x0.trans e) (es_opC (x0.trans e) (es_varI (x0.trans e) rfl) (es_int (x0.trans e)) (⟨by omega, by omega⟩)) (es_opC (x0.trans e) (es_int (x0.trans e)) (es_int (x0.trans e)) (⟨by decide, by decide, by decide⟩)) (Bd.mul (Bd.div hp (by omega)) (by decide +kernel))) (es_opC (x0.trans e) (es_int (x0.trans e)) (es_int (x0.trans e)) (⟨by decide, by decide, by decide⟩)) (by first | (show (0 : Int) < _; omega) | (show (0 : Int) < _; decide +kernel))) (ea_nil' (x0.trans e)))))) (by show 4 ≤ 100000; decide)).s (es_opC (x0.trans e) (es_varI (x0.trans e) rfl) (es_int (x0.trans e)) (by first | (show (0 : Int) < _; omega) | (show (0 : Int) < _; decide +kernel))) (Int.emod_nonneg _ (by decide)) (by show _ < (4 : Int); exact Int.emod_lt_of_pos _ (by decide))) fun w y B2 H2 s hy hR => q w y B2 H2 s ?_ hR
    simp only [List.mem_cons, List.not_mem_nil, or_false] at hy
    rcases hy with hy | hy | hy | hy
    · rw [hy]
      omega
    · rw [hy]
      omega
    · rw [hy]
      have h1 := Int.emod_nonneg (y0 / 9 * 7919) (show (1000003 : Int) ≠ 0 by decide)
      have h2 := Int.emod_lt_of_pos (y0 / 9 * 7919) (show (0 : Int) < 1000003 by decide)
      omega
    · rw [hy]
      have h1 := Int.emod_nonneg (y0 / 9 * 48271 ^ (9 : Int).toNat) (show (10 ^ (40 : Int).toNat : Int) ≠ 0 by decide +kernel)
      have h2 := Int.emod_lt_of_pos (y0 / 9 * 48271 ^ (9 : Int).toNat) (show (0 : Int) < 10 ^ (40 : Int).toNat by decide +kernel)
      have h3 : (10 ^ (40 : Int).toNat : Int) ≤ 10000000000000000000000000000000000000000 := by decide +kernel
      exact ⟨h1, Int.lt_of_lt_of_le h2 h3⟩

theorem okr_ends {m s d : Int} (hm : 2 ≤ m) (h0 : 0 ≤ s) (h1 : s < m) (h2 : 0 ≤ d) (h3 : d < m - 1) : 0 ≤ (s + 1 + d) % m ∧ (s + 1 + d) % m < m ∧ s ≠ (s + 1 + d) % m := by
  have e : s + 1 + d = s + (1 + d) := by omega
  rw [e, emod_add_lt h0 h1 (by omega) (by omega)]
  split <;> omega
abbrev sp_road : Sp := Spec (ar2 eI eI) (fun i => Bd i.1 ∧ 2 ≤ i.2 ∧ i.2 ≤ 12) eR (fun i r => OkR i.2 r)
theorem d__law_road (F0 : FunAt K mg "_law_road" s__law_road) (T : Txt K mg) (G__law_cost : DefOk P w K mg base 1 "_law_cost" ["_law_cell"] sp_cost) : DefOk P w K mg base 2 "_law_road" ["_law_cell", "_law_many_here"] sp_road := by
  refine mk_def (k := 1) F0 sc__law_road (fun _ _ _ _ _ _ us hl => match us, hl with | [_, _], _ => rfl) (fun _ => (lenC (lenC lenN))) ?_
  intro f cdv A0 outer s E i B H vs Q hr x0 hA hp q
  obtain ⟨v0, _, _, rfl, rfl, h0, v1, _, _, rfl, rfl, h1, rfl⟩ := hA
  obtain ⟨y0, y1⟩ := i
  (try dsimp only at h0); (try dsimp only at h1); (try dsimp only at hp); (try dsimp only at q)
  refine ⟨_, (pss_cons (ps_set (i := 2) sc__law_road.nd rfl (by first | exact Or.inl rfl | exact Or.inr rfl) (pe_op op_mod (pv 0) (pv 1)))
      (pss_cons (ps_set (i := 3) sc__law_road.nd rfl (by first | exact Or.inl rfl | exact Or.inr rfl) (pe_op op_mod (pe_op op_add (pe_op op_add (pv 2) pe_int) (pe_op op_mod (pe_op op_fdiv (pv 0) (pv 1)) (pe_op op_sub (pv 1) pe_int))) (pv 1)))
      (pss_one (ps_ret (pe_tup (pa_cons (pv 2) (pa_cons (pv 3) (pa_cons (pe_callD G__law_cost (hr.mono (by decide)) (by rfl) (pa_cons (pe_op op_fdiv (pe_op op_fdiv (pv 0) (pv 1)) (pv 1)) pa_nil)) pa_nil)))))))), ?_⟩
  cases h0
  cases h1
  obtain ⟨hb, hm, hm2⟩ := hp
  have g1 := Int.emod_nonneg y0 (show y1 ≠ 0 by omega)
  have g2 := Int.emod_lt_of_pos y0 (show 0 < y1 by omega)
  have g3 := Int.emod_nonneg (y0 / y1) (show y1 - 1 ≠ 0 by omega)
  have g4 := Int.emod_lt_of_pos (y0 / y1) (show 0 < y1 - 1 by omega)
  have g5 := okr_ends hm g1 g2 g3 g4
  refine q_setI (i := 2) (es_opC x0 (es_varI x0 rfl) (es_varI x0 rfl) (by first | (show (0 : Int) < _; omega) | (show (0 : Int) < _; decide +kernel))) fun H1 e1 => ?_
  refine q_setI (i := 3) (es_opC (x0.trans e1) (es_opI (x0.trans e1) (es_opI (x0.trans e1) (es_varI (x0.trans e1) rfl) (es_int (x0.trans e1))) (es_opC (x0.trans e1) (es_opC (x0.trans e1) (es_varI (x0.trans e1) rfl) (es_varI (x0.trans e1) rfl) (⟨by omega, by omega⟩)) (es_opI (x0.trans e1) (es_varI (x0.trans e1) rfl) (es_int (x0.trans e1))) (by first | (show (0 : Int) < _; omega) | (show (0 : Int) < _; decide +kernel)))) (es_varI (x0.trans e1) rfl) (by first | (show (0 : Int) < _; omega) | (show (0 : Int) < _; decide +kernel))) fun H2 e2 => ?_
  refine c_ret ((Stp.go x0 e1).goH e2) (es_tup3 ((x0.trans e1).trans e2) (es_varI (i := 2) ((x0.trans e1).trans e2) rfl) (es_varI (i := 3) ((x0.trans e1).trans e2) rfl) (es_call (y0 / y1 / y1) ((x0.trans e1).trans e2) (ea_c ((x0.trans e1).trans e2) mono_aN (es_opC ((x0.trans e1).trans e2) (es_opC ((x0.trans e1).trans e2) (es_varI ((x0.trans e1).trans e2) rfl) (es_varI ((x0.trans e1).trans e2) rfl) (⟨by omega, by omega⟩)) (es_varI ((x0.trans e1).trans e2) rfl) (⟨by omega, by omega⟩)) (ea_n ((x0.trans e1).trans e2))) (Bd.div (Bd.div hb (by omega)) (by omega)))) fun w y B2 H3 s hy hR => q w y B2 H3 s ?_ hR
  obtain ⟨ha, hb2, hc⟩ := hy
  exact ⟨by rw [ha]; exact g1, by rw [ha]; exact g2, by rw [hb2]; exact g5.1, by rw [hb2]; exact g5.2.1, by rw [ha, hb2]; exact g5.2.2, hc.1, hc.2⟩

abbrev sp_whole : Sp := Spec (ar1 eI) (fun _ => True) eB (fun _ y => y = true)
theorem d_is_whole (F0 : FunAt K mg "is_whole" s_is_whole) (T : Txt K mg)  : DefOk P w K mg base 1 "is_whole" ["thing"] sp_whole := by
  refine mk_def (k := 0) F0 sc_is_whole (fun _ _ _ _ _ _ us hl => match us, hl with | [_], _ => rfl) (fun _ => (lenC lenN)) ?_
  intro f cdv A0 outer s E i B H vs Q hr x0 hA hp q
  obtain ⟨v0, y0, _, rfl, rfl, h0, rfl⟩ := hA
  refine ⟨_, (pss_one (ps_ret (pe_and (pe_callB (k_isi (K := K) rfl) (by rfl) T.b_isinstance (by decide +kernel) (pa_cons (pv 0) (pa_cons (pe_bltn (v := .ty "int") (u := .type "int") (by rfl) T.b_int (by decide +kernel) rfl) pa_nil))) (pe_one (pe_not (pe_callB (k_isi (K := K) rfl) (by rfl) T.b_isinstance (by decide +kernel) (pa_cons (pv 0) (pa_cons (pe_bltn (v := .ty "bool") (u := .type "bool") (by rfl) T.b_bool (by decide +kernel) rfl) pa_nil)))))))), ?_⟩
  cases h0
  exact c_ret (Stp.refl x0) (es_andV x0 (es_isiI x0 (es_varI x0 rfl) k_ii) fun _ => es_notV x0 (es_isiI x0 (es_varI x0 rfl) k_ib)) fun w y B2 H2 s hy hR => q w y B2 H2 s hy hR

abbrev sp_place : Sp := Spec (ar2 eI eI) (fun _ => True) eB (fun i y => y = (decide (0 ≤ i.2) && decide (i.2 < i.1)))
theorem d_is_place (F0 : FunAt K mg "is_place" s_is_place) (T : Txt K mg) (G_is_whole : DefOk P w K mg base 1 "is_whole" ["thing"] sp_whole) : DefOk P w K mg base 2 "is_place" ["many", "thing"] sp_place := by
  refine mk_def (k := 1) F0 sc_is_place (fun _ _ _ _ _ _ us hl => match us, hl with | [_, _], _ => rfl) (fun _ => (lenC (lenC lenN))) ?_
  intro f cdv A0 outer s E i B H vs Q hr x0 hA hp q
  obtain ⟨v0, _, _, rfl, rfl, h0, v1, _, _, rfl, rfl, h1, rfl⟩ := hA
  obtain ⟨y0, y1⟩ := i
  (try dsimp only at h0); (try dsimp only at h1); (try dsimp only at hp); (try dsimp only at q)
  refine ⟨_, (pss_one (ps_ret (pe_and (pe_callD G_is_whole (hr.mono (by decide)) (by rfl) (pa_cons (pv 1) pa_nil)) (pe_one (pe_chain op_le op_lt pe_int (pv 1) (pv 0)))))), ?_⟩
  cases h0
  cases h1
  refine c_ret (Stp.refl x0) (es_andV (a := true) x0 (es_call y1 x0 (ea_c x0 mono_aN (es_varI x0 rfl) (ea_n x0)) True.intro) fun _ => (es_chain x0 (es_int x0) (es_varI x0 rfl) (es_varI x0 rfl) (fun v w B2 H2 hv hw Q q => ⟨_, _, hv, hw, q⟩) (fun v w B2 H2 hv hw Q q => ⟨_, _, hv, hw, q⟩))) fun w y B2 H2 s hy hR => q w y B2 H2 s ?_ hR
  rw [hy]
  rfl

abbrev sp_isroad : Sp := Spec (ar2 eI eR) (fun i => OkR i.1 i.2) eB (fun _ y => y = true)
theorem d_is_road (F0 : FunAt K mg "is_road" s_is_road) (T : Txt K mg) (G_is_whole : DefOk P w K mg base 1 "is_whole" ["thing"] sp_whole) (G_is_place : DefOk P w K mg base 2 "is_place" ["many", "thing"] sp_place) : DefOk P w K mg base 3 "is_road" ["many", "thing"] sp_isroad := by
  refine mk_def (k := 2) F0 sc_is_road (fun _ _ _ _ _ _ us hl => match us, hl with | [_, _], _ => rfl) (fun _ => (lenC (lenC lenN))) ?_
  intro f cdv A0 outer s E i B H vs Q hr x0 hA hp q
  obtain ⟨v0, _, _, rfl, rfl, h0, v1, _, _, rfl, rfl, h1, rfl⟩ := hA
  obtain ⟨y0, y1⟩ := i
  (try dsimp only at h0); (try dsimp only at h1); (try dsimp only at hp); (try dsimp only at q)
  refine ⟨_, (pss_cons (ps_if (pw_or (pt_not (pt_val (pe_callB (k_isi (K := K) rfl) (by rfl) T.b_isinstance (by decide +kernel) (pa_cons (pv 1) (pa_cons (pe_bltn (v := .ty "tuple") (u := .type "tuple") (by rfl) T.b_tuple (by decide +kernel) rfl) pa_nil))))) (pw_or1 (pt_cmpR op_ne (pe_callB (k_len (K := K) rfl) (by rfl) T.b_len (by decide +kernel) (pa_cons (pv 1) pa_nil)) pe_int (nomark _)))).pt (pss_one (ps_ret pe_bl)) pss_nil)
      (pss_cons (ps_if (pw_or (pt_not (pt_val (pe_callD G_is_place (hr.mono (by decide)) (by rfl) (pa_cons (pv 0) (pa_cons (pe_ix (k_ixt (K := K) rfl) (pv 1) pe_int (fun _ _ => rfl)) pa_nil))))) (pw_or (pt_not (pt_val (pe_callD G_is_place (hr.mono (by decide)) (by rfl) (pa_cons (pv 0) (pa_cons (pe_ix (k_ixt (K := K) rfl) (pv 1) pe_int (fun _ _ => rfl)) pa_nil))))) (pw_or1 (pt_cmpR op_eq (pe_ix (k_ixt (K := K) rfl) (pv 1) pe_int (fun _ _ => rfl)) (pe_ix (k_ixt (K := K) rfl) (pv 1) pe_int (fun _ _ => rfl)) (nomark _))))).pt (pss_one (ps_ret pe_bl)) pss_nil)
      (pss_one (ps_ret (pe_and (pe_callD G_is_whole (hr.mono (by decide)) (by rfl) (pa_cons (pe_ix (k_ixt (K := K) rfl) (pv 1) pe_int (fun _ _ => rfl)) pa_nil)) (pe_one (pe_chain op_le op_lt pe_int (pe_ix (k_ixt (K := K) rfl) (pv 1) pe_int (fun _ _ => rfl)) (pe_gI (by rfl) T.c_DEAREST)))))))), ?_⟩
  cases h0
  obtain ⟨k1, k2, k3, k4, k5, k6, k7⟩ := hp
  refine q_when (et_or (et_not (et_sB (es_isi3 x0 (es_var x0 rfl h1) k_tt))) fun _ => et_sT (es_neI x0 (es_len3 x0 (es_var x0 rfl h1)) (es_int x0))) (fun hb => by cases hb) (fun _ H1 e1 => ?_)
  refine q_when (et_or (et_not (et_sB (es_call (y0, y1.1) (x0.trans e1) (ea_c (x0.trans e1) (mono_aC mono_aN) (es_varI (x0.trans e1) rfl) (ea_c (x0.trans e1) mono_aN (es_30 (x0.trans e1) (es_var (x0.trans e1) rfl h1)) (ea_n (x0.trans e1)))) True.intro))) fun _ => et_or (et_not (et_sB (es_call (y0, y1.2.1) (x0.trans e1) (ea_c (x0.trans e1) (mono_aC mono_aN) (es_varI (x0.trans e1) rfl) (ea_c (x0.trans e1) mono_aN (es_31 (x0.trans e1) (es_var (x0.trans e1) rfl h1)) (ea_n (x0.trans e1)))) True.intro))) fun _ => et_sT (es_eqI (x0.trans e1) (es_30 (x0.trans e1) (es_var (x0.trans e1) rfl h1)) (es_31 (x0.trans e1) (es_var (x0.trans e1) rfl h1)))) (fun hb => ?_) (fun _ H2 e2 => ?_)
  · simp [k1, k2, k3, k4, k5] at hb
  refine c_ret ((Stp.go x0 e1).goH e2) (es_andV (a := true) ((x0.trans e1).trans e2) (es_call y1.2.2 ((x0.trans e1).trans e2) (ea_c ((x0.trans e1).trans e2) mono_aN (es_32 ((x0.trans e1).trans e2) (es_var ((x0.trans e1).trans e2) rfl h1)) (ea_n ((x0.trans e1).trans e2))) True.intro) fun _ => (es_chain ((x0.trans e1).trans e2) (es_int ((x0.trans e1).trans e2)) (es_32 ((x0.trans e1).trans e2) (es_var ((x0.trans e1).trans e2) rfl h1)) (es_int ((x0.trans e1).trans e2)) (fun v w B2 H2 hv hw Q q => ⟨_, _, hv, hw, q⟩) (fun v w B2 H2 hv hw Q q => ⟨_, _, hv, hw, q⟩))) fun w y B2 H3 s hy hR => q w y B2 H3 s ?_ hR
  rw [hy, decide_eq_true k6, decide_eq_true k7]
  rfl

abbrev sp_checked : Sp := Spec (ar2 eI (eL eR)) (fun i => Net i.1 i.2) eO (fun _ y => y = none)
theorem d_checked (F0 : FunAt K mg "checked" s_checked) (T : Txt K mg) (G_is_whole : DefOk P w K mg base 1 "is_whole" ["thing"] sp_whole) (G_is_road : DefOk P w K mg base 3 "is_road" ["many", "thing"] sp_isroad) : DefOk P w K mg base 4 "checked" ["many", "roads"] sp_checked := by
  refine mk_def (k := 3) F0 sc_checked (fun _ _ _ _ _ _ us hl => match us, hl with | [_, _], _ => rfl) (fun _ => (lenC (lenC lenN))) ?_
  intro f cdv A0 outer s E i B H vs Q hr x0 hA hp q
  obtain ⟨v0, _, _, rfl, rfl, h0, v1, _, _, rfl, rfl, h1, rfl⟩ := hA
  obtain ⟨y0, y1⟩ := i
  (try dsimp only at h0); (try dsimp only at h1); (try dsimp only at hp); (try dsimp only at q)
  refine ⟨_, (pss_cons (ps_if (pw_or (pt_not (pt_val (pe_callD G_is_whole (hr.mono (by decide)) (by rfl) (pa_cons (pv 0) pa_nil)))) (pw_or1 (pt_not (pt_chain op_le op_le pe_int (pv 0) (pe_gI (by rfl) T.c_MOST_PLACES))))).pt (pss_one ps_never) pss_nil)
      (pss_cons (ps_if (pw_or (pt_not (pt_val (pe_callB (k_isi (K := K) rfl) (by rfl) T.b_isinstance (by decide +kernel) (pa_cons (pv 1) (pa_cons (pe_bltn (v := .ty "list") (u := .type "list") (by rfl) T.b_list (by decide +kernel) rfl) pa_nil))))) (pw_or1 (pt_cmpR op_gt (pe_callB (k_len (K := K) rfl) (by rfl) T.b_len (by decide +kernel) (pa_cons (pv 1) pa_nil)) (pe_gI (by rfl) T.c_MOST_ROADS) (nomark _)))).pt (pss_one ps_never) pss_nil)
      (pss_one (ps_for PassesOwn.never rfl (pi_list (pv 1)) (pg_name (i := 2) sc_checked.nd rfl (by first | exact Or.inl rfl | exact Or.inr rfl)) (pss_one (ps_if (pt_not (pt_val (pe_callD G_is_road (hr.mono (by decide)) (by rfl) (pa_cons (pv 0) (pa_cons (pv 2) pa_nil))))) (pss_one ps_never) pss_nil)))))), ?_⟩
  cases h0
  have hlo := hp.lo
  have hhi := hp.hi
  have hlen := hp.len
  refine q_when (et_or (et_not (et_sB (es_call y0 x0 (ea_c x0 mono_aN (es_varI x0 rfl) (ea_n x0)) True.intro))) fun _ => et_not (et_sT (es_chain x0 (es_int x0) (es_varI x0 rfl) (es_int x0) (fun v w B2 H2 hv hw Q q => ⟨_, _, hv, hw, q⟩) (fun v w B2 H2 hv hw Q q => ⟨_, _, hv, hw, q⟩)))) (fun hb => ?_) (fun _ H1 e1 => ?_)
  · simp at hb
    omega
  refine q_when (et_or (et_not (et_sB (es_isiL (x0.trans e1) (es_var (x0.trans e1) rfl h1) k_ll))) fun _ => et_sT (es_opB (x0.trans e1) (es_lenL (x0.trans e1) (es_var (x0.trans e1) rfl h1)) (es_int (x0.trans e1)))) (fun hb => ?_) (fun _ H2 e2 => ?_)
  · simp at hb
    omega
  have s0 := (Stp.go x0 e1).goH e2
  refine c_forE s0.bh ⟨_, ev_var rfl, h1⟩ (fun i σ' H' => ∃ a, σ' = [some (.int y0), some v1, a] ∧ Stp B H B H') (fun H3 e3 => ⟨none, rfl, s0.goH e3⟩) (fun i σ' H' ⟨_, _, s⟩ => s.bh) (fun i r v σ' H' hi hv w => ?_) (fun σ' H' w => ?_)
  · obtain ⟨a, rfl, s⟩ := w
    have hr : OkR y0 r := hp.ok r (List.mem_of_getElem? hi)
    exact s_when (et_not (et_sB (es_call (y0, r) s.bh (ea_c s.bh (mono_aC mono_aN) (es_varI s.bh rfl) (ea_c s.bh mono_aN (es_var s.bh rfl hv) (ea_n s.bh))) hr))) (fun hb => by cases hb) fun _ H5 e5 => ⟨_, rfl, s.goH e5⟩
  · obtain ⟨a, rfl, s⟩ := w
    exact q .non none B H' s rfl rfl

abbrev sp_need : Sp := Spec (ar2 eI eI) (fun i => 0 ≤ i.2 ∧ i.2 < i.1) eO (fun _ y => y = none)
theorem d_need_place (F0 : FunAt K mg "need_place" s_need_place) (T : Txt K mg) (G_is_place : DefOk P w K mg base 2 "is_place" ["many", "thing"] sp_place) : DefOk P w K mg base 3 "need_place" ["many", "place"] sp_need := by
  refine mk_def (k := 2) F0 sc_need_place (fun _ _ _ _ _ _ us hl => match us, hl with | [_, _], _ => rfl) (fun _ => (lenC (lenC lenN))) ?_
  intro f cdv A0 outer s E i B H vs Q hr x0 hA hp q
  obtain ⟨v0, _, _, rfl, rfl, h0, v1, _, _, rfl, rfl, h1, rfl⟩ := hA
  obtain ⟨y0, y1⟩ := i
  (try dsimp only at h0); (try dsimp only at h1); (try dsimp only at hp); (try dsimp only at q)
  refine ⟨_, (pss_one (ps_if (pt_not (pt_val (pe_callD G_is_place (hr.mono (by decide)) (by rfl) (pa_cons (pv 0) (pa_cons (pv 1) pa_nil))))) (pss_one ps_never) pss_nil)), ?_⟩
  cases h0
  cases h1
  exact s_when (et_not (et_sB (es_call (y0, y1) x0 (ea_c x0 (mono_aC mono_aN) (es_varI x0 rfl) (ea_c x0 mono_aN (es_varI x0 rfl) (ea_n x0))) True.intro))) (fun hb => by simp [hp.1, hp.2] at hb) fun _ H5 e5 => q .non none B _ (Stp.go x0 e5) rfl rfl

/-- ahead of a turn of the while: ks are met, ws wait -/
structure Led (es : List (Int × Int)) (s : Int) (ks ws : List Int) : Prop where
  nd : ks.Nodup
  hs : s ∈ ks
  rch : ∀ k ∈ ks, Rch es s k
  sub : ∀ k ∈ ws, k ∈ ks
  wk : ws.length ≤ ks.length
  cl : ∀ a b, (a, b) ∈ es → a ∈ ks → ¬ a ∈ ws → b ∈ ks
/-- within a turn, at place p, behind i of the roads -/
structure LedIn (es : List (Int × Int)) (s p : Int) (i : Nat) (ks ws : List Int) : Prop where
  nd : ks.Nodup
  hs : s ∈ ks
  rch : ∀ k ∈ ks, Rch es s k
  sub : ∀ k ∈ ws, k ∈ ks
  wk : ws.length ≤ ks.length
  cl : ∀ a b, (a, b) ∈ es → a ∈ ks → ¬ a ∈ ws → a ≠ p → b ∈ ks
  hp : p ∈ ks
  here : ∀ j b, j < i → es[j]? = some (p, b) → b ∈ ks
theorem led_start {es : List (Int × Int)} {s : Int} : Led es s [s] [s] :=
  ⟨by simp, List.mem_singleton.mpr rfl, fun k hk => by rw [List.mem_singleton.mp hk]; exact .refl, fun k hk => hk, Nat.le_refl _, fun a b _ h1 h2 => absurd h1 h2⟩
theorem led_pop {es : List (Int × Int)} {s p : Int} {ks ws : List Int} (h : Led es s ks (ws ++ [p])) : LedIn es s p 0 ks ws :=
  ⟨h.nd, h.hs, h.rch, fun k hk => h.sub k (List.mem_append_left _ hk), by have := h.wk; rw [List.length_append, List.length_singleton] at this; omega, fun a b he h1 h2 h3 => h.cl a b he h1 fun q => by
    rcases List.mem_append.mp q with q | q
    · exact h2 q
    · exact h3 (List.mem_singleton.mp q), h.sub p (List.mem_append_right _ (List.mem_singleton.mpr rfl)), fun j b hj => absurd hj (Nat.not_lt_zero _)⟩
theorem led_skip {es : List (Int × Int)} {s p : Int} {i : Nat} {ks ws : List Int} {e : Int × Int} (h : LedIn es s p i ks ws) (he : es[i]? = some e) (hb : ¬ (e.1 = p ∧ ¬ e.2 ∈ ks)) : LedIn es s p (i + 1) ks ws :=
  ⟨h.nd, h.hs, h.rch, h.sub, h.wk, h.cl, h.hp, fun j b hj hx => by
    by_cases q : j = i
    · subst q
      rw [he] at hx
      cases hx
      exact Classical.byContradiction fun z => hb ⟨rfl, z⟩
    · exact h.here j b (by omega) hx⟩
theorem led_add {es : List (Int × Int)} {s p : Int} {i : Nat} {ks ws : List Int} {e : Int × Int} (h : LedIn es s p i ks ws) (he : es[i]? = some e) (h1 : e.1 = p) (h2 : ¬ e.2 ∈ ks) : LedIn es s p (i + 1) (ks ++ [e.2]) (ws ++ [e.2]) := by
  have hm : e ∈ es := List.mem_of_getElem? he
  refine ⟨nd_snoc h.nd h2, List.mem_append_left _ h.hs, fun k hk => ?_, fun k hk => ?_, by have := h.wk; rw [List.length_append, List.length_append, List.length_singleton]; omega, fun a b hab ha hw hp => ?_, List.mem_append_left _ h.hp, fun j b hj hx => ?_⟩
  · rcases List.mem_append.mp hk with hk | hk
    · exact h.rch k hk
    · rw [List.mem_singleton.mp hk]
      exact .step (h.rch p h.hp) (by rw [← h1]; exact hm)
  · rcases List.mem_append.mp hk with hk | hk
    · exact List.mem_append_left _ (h.sub k hk)
    · exact List.mem_append_right _ hk
  · have hw1 : ¬ a ∈ ws := fun q => hw (List.mem_append_left _ q)
    have hw2 : ¬ a = e.2 := fun q => hw (List.mem_append_right _ (List.mem_singleton.mpr q))
    rcases List.mem_append.mp ha with ha | ha
    · exact List.mem_append_left _ (h.cl a b hab ha hw1 hp)
    · exact absurd (List.mem_singleton.mp ha) hw2
  · by_cases q : j = i
    · subst q
      rw [he] at hx
      cases hx
      exact List.mem_append_right _ (List.mem_singleton.mpr rfl)
    · exact List.mem_append_left _ (h.here j b (by omega) hx)
theorem led_turn {es : List (Int × Int)} {s p : Int} {ks ws : List Int} (h : LedIn es s p es.length ks ws) : Led es s ks ws :=
  ⟨h.nd, h.hs, h.rch, h.sub, h.wk, fun a b he h1 h2 => by
    by_cases q : a = p
    · subst q
      obtain ⟨j, hj⟩ := List.mem_iff_getElem?.mp he
      exact h.here j b (List.getElem?_eq_some_iff.mp hj).1 hj
    · exact h.cl a b he h1 h2 q⟩
theorem led_end {es : List (Int × Int)} {s : Int} {ks : List Int} (h : Led es s ks []) : ks.Nodup ∧ ∀ v, v ∈ ks ↔ Rch es s v :=
  ⟨h.nd, fun v => ⟨h.rch v, fun r => r.closed (P := fun v => v ∈ ks) h.hs fun a b he ha => h.cl a b he ha (by simp)⟩⟩
theorem led_le {es : List (Int × Int)} {s : Int} {ks : List Int} {m : Int} (hn : ks.Nodup) (hr : ∀ k ∈ ks, Rch es s k) (hs : 0 ≤ s ∧ s < m) (hm : m ≤ 12) (he : InE m es) : ks.length ≤ 12 :=
  nodup_le hn fun k hk => by
    have := (hr k hk).inE hs he
    omega
abbrev sp_led : Sp := Spec (ar2 (eL eI) (eL eH)) (fun i => ∃ s m, i.1 = [s] ∧ 0 ≤ s ∧ s < m ∧ m ≤ 12 ∧ InE m i.2) eD (fun i ks => ∀ s, i.1 = [s] → ks.Nodup ∧ ∀ v, v ∈ ks ↔ Rch i.2 s v)
theorem d_led (F0 : FunAt K mg "led" s_led) (T : Txt K mg)  : DefOk P w K mg base 1 "led" ["starts", "roads"] sp_led := by
  refine mk_def (k := 0) F0 sc_led (fun _ _ _ _ _ _ us hl => match us, hl with | [_, _], _ => rfl) (fun _ => (lenC (lenC lenN))) ?_
  intro f cdv A0 outer s E i B H vs Q hr x0 hA hp q
  obtain ⟨v0, _, _, rfl, rfl, h0, v1, _, _, rfl, rfl, h1, rfl⟩ := hA
  obtain ⟨y0, y1⟩ := i
  (try dsimp only at h0); (try dsimp only at h1); (try dsimp only at hp); (try dsimp only at q)
  refine ⟨_, (pss_cons (ps_set (i := 2) sc_led.nd rfl (by first | exact Or.inl rfl | exact Or.inr rfl) pe_dnewK)
      (pss_cons (ps_for PassesOwn.never rfl (pi_list (pv 0)) (pg_name (i := 3) sc_led.nd rfl (by first | exact Or.inl rfl | exact Or.inr rfl)) (pss_one (ps_dput (hu_of hr) (pv 2) (pv 3) pe_bl rfl)))
      (pss_cons (ps_set (i := 4) sc_led.nd rfl (by first | exact Or.inl rfl | exact Or.inr rfl) (pe_callTy (k_list (K := K) rfl) (by rfl) T.b_list (by decide +kernel) (pa_cons (pv 0) pa_nil)))
      (pss_cons (ps_while PassesOwn.never (pt_truth (pv 4) (by intro _; rfl)) (pss_cons (ps_set (i := 3) sc_led.nd rfl (by first | exact Or.inl rfl | exact Or.inr rfl) (pe_bm0 PySem.F.plainAttrs_list PySem.F.slot_list_pop PySem.F.type_list_pop mt_pop (pv 4)))
      (pss_one (ps_for PassesOwn.never rfl (pi_list (pv 1)) (pg_name (i := 5) sc_led.nd rfl (by first | exact Or.inl rfl | exact Or.inr rfl)) (pss_one (ps_if (pw_and (pt_cmpR op_eq (pe_ix (k_ixt (K := K) rfl) (pv 5) pe_int (fun _ _ => rfl)) (pv 3) (nomark _)) (pw_and1 (pt_cmp (pc_dnotin (hu_of hr) (pe_ix (k_ixt (K := K) rfl) (pv 5) pe_int (fun _ _ => rfl)) (pv 2)) (by rfl)))).pt (pss_cons (ps_dput (hu_of hr) (pv 2) (pe_ix (k_ixt (K := K) rfl) (pv 5) pe_int (fun _ _ => rfl)) pe_bl rfl)
      (pss_one (ps_expr (pe_bm PySem.F.plainAttrs_list PySem.F.slot_list_append PySem.F.type_list_append mt_append (pv 4) (pa_cons (pe_ix (k_ixt (K := K) rfl) (pv 5) pe_int (fun _ _ => rfl)) pa_nil))))) pss_nil))))))
      (pss_one (ps_ret (pv 2))))))), ?_⟩
  obtain ⟨s0, m, rfl, hs0, hsm, hm12, hin⟩ := hp
  refine q_dnew (i := 2) (Stp.refl x0) fun l H1 nl e1 s1 cm => ?_
  have x1 := s1.bh
  -- the starts
  refine q_forE (E := eI) x1 ⟨_, ev_var rfl, h0⟩ (fun i σ' H' => ∃ a kvs, σ' = [some v0, some v1, some (.ref l), a, none, none] ∧ Stp B H B H' ∧ Cell H B H' l (.dK kvs) ∧ kvs.map (·.1) = (if i = 0 then [] else [s0] : List Int).map Sum.inl)
    (fun H2 e2 => ⟨none, [], rfl, s1.goH e2, cm.go e2, rfl⟩) (fun i σ' H' ⟨_, _, _, s, _⟩ => s.bh) (fun i r v σ' H' hi hv w => ?_) (fun σ' H' w => ?_)
  · obtain ⟨a, kvs, rfl, s, c, hk⟩ := w
    cases hv
    have hi0 : i = 0 := by
      have := (List.getElem?_eq_some_iff.mp hi).1
      rw [List.length_singleton] at this
      omega
    subst hi0
    have hr : r = s0 := (Option.some.inj hi).symm
    subst hr
    have hkl : kvs.length = 0 := by
      have := congrArg List.length hk
      rw [List.length_map] at this
      exact this
    refine c_dput (i := 2) c hk s (by omega) (v := .bl true) ev_c rfl (es_varI (i := 3) s.bh rfl) fun H3 kvs' s3 c3 hk3 _ => ⟨_, kvs', rfl, s3, c3, ?_⟩
    rw [hk3]
    rfl
  obtain ⟨a, kvs, rfl, s2, c, hk⟩ := w
  have x2 := s2.bh
  have hk : kvs.map (·.1) = ([s0] : List Int).map Sum.inl := hk
  clear x1 s1 cm e1
  -- waiting
  refine q_setM (i := 4) (em_listL (E := eI) x2 (es_var x2 rfl h0)) fun u vs xs B1 H2 s3 nu bu hu hx hp => ?_
  cases hx
  rw [pI hp] at hu
  have cw : Cell H B1 H2 u (.lst ([s0].map V.int)) := ⟨fresh_back s2.eh nu, bu, hu⟩
  have c1 := c.up s3
  replace s2 := s2.trans s3
  replace h1 := Enc.up _ s3.eb h1
  have hlen := pl (show Paired (eI.R B1) _ _ from pI' (H := B1) [s0])
  clear hp nu bu hu c x2 s3 hlen
  refine q_while (W := fun n σ' H' => ∃ (b : Option V) (a : Option V) (kvs : List (Key × V)) (ks ws : List Int), σ' = [some v0, some v1, some (.ref l), a, some (.ref u), b] ∧ Stp B H B1 H' ∧ Cell H B1 H' l (.dK kvs) ∧ Cell H B1 H' u (.lst (ws.map V.int)) ∧ kvs.map (·.1) = ks.map Sum.inl ∧ Led y1 s0 ks ws ∧ n + ks.length = ws.length + 12)
    12 ⟨_, _, kvs, [s0], [s0], rfl, s2, c1, cw, hk, led_start, rfl⟩ (fun n σ' H' w => ?_)
  obtain ⟨b, a, kvs, ks, ws, rfl, s4, cl, cu, hk4, hL, hn⟩ := w
  have hne : l ≠ u := cl.ne cu (by intro z; cases z)
  refine ⟨!ws.isEmpty, et_truL (E := eI) ⟨.ref u, ev_var rfl, cell_L cu (pI' _)⟩, fun hb H5 e5 => ?_, fun hb H5 e5 => ?_⟩
  · -- a turn
    obtain ⟨ws', p, rfl⟩ : ∃ ws' p, ws = ws' ++ [p] := by
      have hne : ws ≠ [] := by
        intro z
        subst z
        cases hb
      exact ⟨ws.dropLast, ws.getLast hne, (List.dropLast_concat_getLast hne).symm⟩
    refine ⟨fun σ' H' => ∃ (b : Option V) (a : Option V) (kvs : List (Key × V)) (ks ws : List Int), σ' = [some v0, some v1, some (.ref l), a, some (.ref u), b] ∧ Stp B H B1 H' ∧ Cell H B1 H' l (.dK kvs) ∧ Cell H B1 H' u (.lst (ws.map V.int)) ∧ kvs.map (·.1) = ks.map Sum.inl ∧ Led y1 s0 ks ws ∧ n + ks.length = ws.length + 13,
      fun σ2 H6 ⟨b, a, kvs, ks, ws, r1, r2, r3, r4, r5, r6, r7⟩ => ?_, ?_⟩
    · have h12 := led_le r6.nd r6.rch ⟨hs0, hsm⟩ hm12 hin
      exact ⟨ws.length + 12 - ks.length, by omega, b, a, kvs, ks, ws, r1, r2, r3, r4, r5, r6, by omega⟩
    have cu5 : Cell H B1 H5 u (.lst (ws'.map V.int ++ [V.int p])) := by
      have := cu.go e5
      rw [map_snoc] at this
      exact this
    refine q_pop (i := 4) (j := 3) cu5 (s4.goH e5) rfl fun H6 s6 c6 oth => ?_
    have cl6 := oth l _ hne (cl.go e5)
    have hI0 := led_pop hL
    have hn0 : n + ks.length = ws'.length + 13 := by
      rw [List.length_append, List.length_singleton] at hn
      omega
    refine c_forE (E := eH) s6.bh ⟨_, ev_var (i := 1) rfl, h1⟩ (fun i σ' H' => ∃ (b : Option V) (kvs : List (Key × V)) (ks ws : List Int), σ' = [some v0, some v1, some (.ref l), some (.int p), some (.ref u), b] ∧ Stp B H B1 H' ∧ Cell H B1 H' l (.dK kvs) ∧ Cell H B1 H' u (.lst (ws.map V.int)) ∧ kvs.map (·.1) = ks.map Sum.inl ∧ LedIn y1 s0 p i ks ws ∧ n + ks.length = ws.length + 13)
      (fun H7 e7 => ⟨_, kvs, ks, ws', rfl, s6.goH e7, cl6.go e7, c6.go e7, hk4, hI0, hn0⟩) (fun i σ' H' ⟨_, _, _, _, _, s, _⟩ => s.bh) (fun i r v σ' H' hi hrr w => ?_) (fun σ' H' w => ?_)
    · obtain ⟨b, kvs, ks, ws, rfl, s9, cl9, cu9, hk9, hL9, hn9⟩ := w
      have x9 := s9.bh
      have hmD : eD.R H' (.ref l) ks := cell_D cl9 hk9
      have x8 := Ex.refl H'
      have h12 := led_le hL9.nd hL9.rch ⟨hs0, hsm⟩ hm12 hin
      have hwl : ws.length ≤ 1000 := by have := hL9.wk; omega
      have hkl : kvs.length = ks.length := by
        have := congrArg List.length hk9
        rw [List.length_map, List.length_map] at this
        exact this
      refine s_when (et_and (et_sT (es_eqI x8 (es_H0 x8 (es_var x8 rfl (Enc.up _ x9 hrr))) (es_varI x8 rfl))) fun _ => (et_sB (es_dnotin x8 (es_H1 x8 (es_var x8 rfl (Enc.up _ x9 hrr))) (es_var x8 rfl hmD)))) (fun hb H7 e7 => ?_) (fun hb H7 e7 => ⟨_, kvs, ks, ws, rfl, s9.goH e7, cl9.go e7, cu9.go e7, hk9, led_skip hL9 hi ?_, hn9⟩)
      · simp only [Bool.and_eq_true, decide_eq_true_eq, Bool.not_eq_true', decide_eq_false_iff_not] at hb
        obtain ⟨hb1, hb2⟩ := hb
        have rH := Enc.up _ (x9.trans e7) hrr
        refine q_dput (i := 2) (cl9.go e7) hk9 (s9.goH e7) (by omega) (v := .bl true) ev_c rfl (es_H1 (x9.trans e7) (es_var (E := eH) (i := 5) (x9.trans e7) rfl hrr)) fun H8 kvs' s8 c8 hk8 oth8 => ?_
        have cu8 := oth8 u _ hne.symm (cu9.go e7)
        refine c_appI (i := 4) cu8 s8 rfl (by rw [List.length_map]; omega) (es_H1 s8.bh (es_var (E := eH) (i := 5) s8.bh rfl hrr)) fun H9 s10 c10 oth10 => ?_
        have hk10 : addK ks r.2 = ks ++ [r.2] := if_neg hb2
        rw [hk10] at hk8
        refine ⟨_, kvs', ks ++ [r.2], ws ++ [r.2], rfl, s10, oth10 l _ hne c8, ?_, hk8, led_add hL9 hi hb1 hb2, ?_⟩
        · rw [map_snoc]
          exact c10
        · rw [List.length_append, List.length_append, List.length_singleton]
          omega
      · intro ⟨z1, z2⟩
        simp [z1, z2] at hb
    · obtain ⟨b, kvs, ks, ws, rfl, s9, cl9, cu9, hk9, hL9, hn9⟩ := w
      exact ⟨b, _, kvs, ks, ws, rfl, s9, cl9, cu9, hk9, led_turn hL9, hn9⟩
  · have hw : ws = [] := by
      cases ws with
      | nil => rfl
      | cons => cases hb
    subst hw
    obtain ⟨B2, t, _, hD, _⟩ := cell_pubD (cl.go e5) (s4.goH e5) hk4
    refine c_ret t (es_var (E := eD) (i := 2) t.bh rfl hD) fun w y B3 H6 s7 hy hR => q w y B3 H6 s7 (fun s hs => ?_) hR
    cases hs
    rw [hy]
    exact led_end hL

theorem net_led {m : Int} {rs : List Road} (h : Net m rs) {r : Int} (h0 : 0 ≤ r) (h1 : r < m) : ∃ s n, [r] = [s] ∧ 0 ≤ s ∧ s < n ∧ n ≤ 12 ∧ InE n (ends rs) := ⟨r, m, rfl, h0, h1, h.hi, Net.inE h.ok⟩
def IsReached (m : Int) (rs : List Road) (r : Int) (ys : List Int) : Prop := Up ys ∧ ∀ v, v ∈ ys ↔ Rch (ends rs) r v
abbrev sp_reached : Sp := Spec (ar3 eI (eL eR) eI) (fun i => Net i.1 i.2.1 ∧ 0 ≤ i.2.2 ∧ i.2.2 < i.1) (eL eI) (fun i y => IsReached i.1 i.2.1 i.2.2 y)
theorem d_reached (F0 : FunAt K mg "reached" s_reached) (T : Txt K mg) (G_checked : DefOk P w K mg base 4 "checked" ["many", "roads"] sp_checked) (G_need_place : DefOk P w K mg base 3 "need_place" ["many", "place"] sp_need) (G_led : DefOk P w K mg base 1 "led" ["starts", "roads"] sp_led) : DefOk P w K mg base 5 "reached" ["many", "roads", "root"] sp_reached := by
  refine mk_def (k := 4) F0 sc_reached (fun _ _ _ _ _ _ us hl => match us, hl with | [_, _, _], _ => rfl) (fun _ => (lenC (lenC (lenC lenN)))) ?_
  intro f cdv A0 outer s E i B H vs Q hr x0 hA hp q
  obtain ⟨v0, _, _, rfl, rfl, h0, v1, _, _, rfl, rfl, h1, v2, _, _, rfl, rfl, h2, rfl⟩ := hA
  obtain ⟨y0, y1, y2⟩ := i
  (try dsimp only at h0); (try dsimp only at h1); (try dsimp only at h2); (try dsimp only at hp); (try dsimp only at q)
  refine ⟨_, (pss_cons (ps_expr (pe_callD G_checked (hr.mono (by decide)) (by rfl) (pa_cons (pv 0) (pa_cons (pv 1) pa_nil))))
      (pss_cons (ps_expr (pe_callD G_need_place (hr.mono (by decide)) (by rfl) (pa_cons (pv 0) (pa_cons (pv 2) pa_nil))))
      (pss_one (ps_ret (pe_callB (cl_sortedD rfl) (by rfl) T.b_sorted (by decide +kernel) (pa_cons (pe_callD G_led (hr.mono (by decide)) (by rfl) (pa_cons (pe_lst (pa_cons (pv 2) pa_nil)) (pa_cons (pv 1) pa_nil))) pa_nil)))))), ?_⟩
  cases h0
  cases h2
  obtain ⟨hn, hr0, hr1⟩ := hp
  refine q_dropS (es_call (y0, y1) x0 (ea_c x0 (mono_aC mono_aN) (es_varI x0 rfl) (ea_c x0 mono_aN (es_var x0 rfl h1) (ea_n x0))) hn) fun v x B1 H1 s1 _ _ => ?_
  have x1 := s1.bh
  refine q_dropS (es_call (y0, y2) x1 (ea_c x1 (mono_aC mono_aN) (es_varI x1 rfl) (ea_c x1 mono_aN (es_varI x1 rfl) (ea_n x1))) ⟨hr0, hr1⟩) fun v x B2 H2 s2 _ _ => ?_
  replace s2 := s1.trans s2
  replace h1 := eRs_H (Enc.up _ s2.eb h1)
  have x2 := s2.bh
  refine c_ret s2 (em_sortDS x2 (es_call ([y2], ends y1) x2 (ea_c x2 (mono_aC mono_aN) (em_lst (ea_cons' x2 (es_varI x2 rfl) (ea_nil' x2)) (by show 1 ≤ 100000; decide)).s (ea_c x2 mono_aN (es_var x2 rfl h1) (ea_n x2))) (net_led hn hr0 hr1)) (fun ks hk => ?_)).s
    fun w y B3 H3 s hy hR => q w y B3 H3 s ?_ hR
  · obtain ⟨k1, k2⟩ := hk y2 rfl
    exact ⟨Nat.lt_of_le_of_lt (led_le k1 (fun k h => (k2 k).mp h) ⟨hr0, hr1⟩ hn.hi (Net.inE hn.ok)) (by decide), k1⟩
  · obtain ⟨u, ks, hk, e⟩ := hy
    obtain ⟨k1, k2⟩ := hk y2 rfl
    exact ⟨u, fun v => (e v).trans (k2 v)⟩

def IsCut (m : Int) (rs : List Road) (r : Int) (ys : List Int) : Prop := Up ys ∧ ∀ v, v ∈ ys ↔ (0 ≤ v ∧ v < m ∧ ¬ Rch (ends rs) r v)
abbrev sp_cut : Sp := Spec (ar3 eI (eL eR) eI) (fun i => Net i.1 i.2.1 ∧ 0 ≤ i.2.2 ∧ i.2.2 < i.1) (eL eI) (fun i y => IsCut i.1 i.2.1 i.2.2 y)
theorem d_cut_off (F0 : FunAt K mg "cut_off" s_cut_off) (T : Txt K mg) (G_reached : DefOk P w K mg base 5 "reached" ["many", "roads", "root"] sp_reached) : DefOk P w K mg base 6 "cut_off" ["many", "roads", "root"] sp_cut := by
  refine mk_def (k := 5) F0 sc_cut_off (fun _ _ _ _ _ _ us hl => match us, hl with | [_, _, _], _ => rfl) (fun _ => (lenC (lenC (lenC lenN)))) ?_
  intro f cdv A0 outer s E i B H vs Q hr x0 hA hp q
  obtain ⟨v0, _, _, rfl, rfl, h0, v1, _, _, rfl, rfl, h1, v2, _, _, rfl, rfl, h2, rfl⟩ := hA
  obtain ⟨y0, y1, y2⟩ := i
  (try dsimp only at h0); (try dsimp only at h1); (try dsimp only at h2); (try dsimp only at hp); (try dsimp only at q)
  refine ⟨_, (pss_cons (ps_set (i := 3) sc_cut_off.nd rfl (by first | exact Or.inl rfl | exact Or.inr rfl) (pe_callD G_reached (hr.mono (by decide)) (by rfl) (pa_cons (pv 0) (pa_cons (pv 1) (pa_cons (pv 2) pa_nil)))))
      (pss_one (ps_ret (pe_lc (own := [("place", 4)]) (g := gName 4) rfl sc_cut_off.nd (pi_range1 (by rfl) T.b_range (pa_cons (pv 0) pa_nil)) (blkOk_by (N := N_cut_off) (sc := defScope s_cut_off) (by decide +kernel)) (fun _ _ _ _ _ => pg_name (i := 4) sc_cut_off.nd rfl (Or.inl rfl)) (fun _ _ _ _ _ => (pts_one (pt_cmpR (k_notin (K := K) rfl) (pv 4) (pv 3) (by rfl)))) (fun _ _ _ _ _ => (pv 4)))))), ?_⟩
  cases h0
  cases h2
  have hn := hp.1
  refine q_setS (es_call (y0, y1, y2) x0 (ea_c x0 (mono_aC (mono_aC mono_aN)) (es_varI x0 rfl) (ea_c x0 (mono_aC mono_aN) (es_var x0 rfl h1) (ea_c x0 mono_aN (es_varI x0 rfl) (ea_n x0)))) hp) fun v ks B1 H1 s1 hk hv => ?_
  have x1 := s1.bh
  obtain ⟨hk1, hk2⟩ := hk
  refine c_ret s1 (em_lcR (F := eI) (p := fun k => !decide (k ∈ ks)) (Tr := fun k y => y = k) x1 (es_varI x1 rfl) (by have := hn.hi; omega) (by have := hn.lo; omega) (fun v => rfl) (fun k B2 H2 s2 _ _ => ?_) (fun k B2 H2 s2 _ _ _ => es_varI s2.bh rfl)).s
    fun w y B3 H3 s hy hR => q w y B3 H3 s ?_ hR
  · exact et_sT (es_ninL s2.bh (es_varI s2.bh rfl) (es_var s2.bh rfl (Enc.up _ s2.eb hv)))
  · have e := pair_fun (f := fun k => k) hy
    rw [e, List.map_id']
    refine ⟨up_filter _ (up_rg _), fun v => ?_⟩
    rw [List.mem_filter, mem_rg]
    constructor
    · rintro ⟨⟨a, b⟩, c⟩
      refine ⟨a, b, fun r => ?_⟩
      have := (hk2 v).mpr r
      simp [this] at c
    · rintro ⟨a, b, c⟩
      refine ⟨⟨a, b⟩, ?_⟩
      have : ¬ v ∈ ks := fun h => c ((hk2 v).mp h)
      simp [this]

abbrev sp_many : Sp := Spec (ar1 eI) (fun _ => True) eI (fun _ y => 1 ≤ y ∧ y ≤ 12)
theorem d__law_many (F0 : FunAt K mg "_law_many" s__law_many) (T : Txt K mg)  : DefOk P w K mg base 1 "_law_many" ["_law_cell"] sp_many := by
  refine mk_def (k := 0) F0 sc__law_many (fun _ _ _ _ _ _ us hl => match us, hl with | [_], _ => rfl) (fun _ => (lenC lenN)) ?_
  intro f cdv A0 outer s E i B H vs Q hr x0 hA hp q
  obtain ⟨v0, y0, _, rfl, rfl, h0, rfl⟩ := hA
  refine ⟨_, (pss_cons (ps_if (pt_cmpR op_eq (pe_op op_mod (pe_op op_fdiv (pv 0) pe_int) pe_int) pe_int (nomark _)) (pss_one (ps_ret (pe_op op_add pe_int (pe_op op_mod (pe_op op_fdiv (pv 0) pe_int) pe_int)))) pss_nil)
      (pss_one (ps_ret (pe_op op_add pe_int (pe_op op_mod (pv 0) pe_int))))), ?_⟩
  cases h0
  refine q_when (et_sT (es_eqI x0 (es_opC x0 (es_opC x0 (es_varI x0 rfl) (es_int x0) (⟨by omega, by omega⟩)) (es_int x0) (by first | (show (0 : Int) < _; omega) | (show (0 : Int) < _; decide +kernel))) (es_int x0))) (fun hb H1 e => ?_) (fun hb H1 e => ?_)
  · refine c_ret (Stp.go x0 e) (es_opI (x0.trans e) (es_int (x0.trans e)) (es_opC (x0.trans e) (es_opC (x0.trans e) (es_varI (x0.trans e) rfl) (es_int (x0.trans e)) (⟨by omega, by omega⟩)) (es_int (x0.trans e)) (by first | (show (0 : Int) < _; omega) | (show (0 : Int) < _; decide +kernel)))) fun w y B2 H2 s hy hR => q w y B2 H2 s ?_ hR
    rw [hy]
    omega
  · refine c_ret (Stp.go x0 e) (es_opI (x0.trans e) (es_int (x0.trans e)) (es_opC (x0.trans e) (es_varI (x0.trans e) rfl) (es_int (x0.trans e)) (by first | (show (0 : Int) < _; omega) | (show (0 : Int) < _; decide +kernel)))) fun w y B2 H2 s hy hR => q w y B2 H2 s ?_ hR
    rw [hy]
    omega

abbrev sp_met : Sp := Spec (ar3 eI (eL eR) eI) (fun i => 1 ≤ i.1 ∧ i.1 ≤ 12 ∧ (∀ r ∈ i.2.1, OkR i.1 r) ∧ 0 ≤ i.2.2 ∧ i.2.2 < i.1) (eL eI) (fun i y => IsReached i.1 i.2.1 i.2.2 y)
theorem d__law_met (F0 : FunAt K mg "_law_met" s__law_met) (T : Txt K mg)  : DefOk P w K mg base 1 "_law_met" ["_law_many_here", "_law_roads_here", "_law_root"] sp_met := by
  refine mk_def (k := 0) F0 sc__law_met (fun _ _ _ _ _ _ us hl => match us, hl with | [_, _, _], _ => rfl) (fun _ => (lenC (lenC (lenC lenN)))) ?_
  intro f cdv A0 outer s E i B H vs Q hr x0 hA hp q
  obtain ⟨v0, _, _, rfl, rfl, h0, v1, _, _, rfl, rfl, h1, v2, _, _, rfl, rfl, h2, rfl⟩ := hA
  obtain ⟨y0, y1, y2⟩ := i
  (try dsimp only at h0); (try dsimp only at h1); (try dsimp only at h2); (try dsimp only at hp); (try dsimp only at q)
  refine ⟨_, (pss_cons (ps_set (i := 3) sc__law_met.nd rfl (by first | exact Or.inl rfl | exact Or.inr rfl) (pe_lc (own := [("_law_place", 6)]) (g := gName 6) rfl sc__law_met.nd (pi_range1 (by rfl) T.b_range (pa_cons (pv 0) pa_nil)) (blkOk_by (N := N__law_met) (sc := defScope s__law_met) (by decide +kernel)) (fun _ _ _ _ _ => pg_name (i := 6) sc__law_met.nd rfl (Or.inl rfl)) (fun _ _ _ _ _ => pts_nil) (fun _ _ _ _ _ => (pe_cmpR op_eq (pv 6) (pv 2) (nomark _)))))
      (pss_cons (ps_for PassesOwn.never rfl (pi_range1 (by rfl) T.b_range (pa_cons (pv 0) pa_nil)) (pg_name (i := 4) sc__law_met.nd rfl (by first | exact Or.inl rfl | exact Or.inr rfl)) (pss_one (ps_for PassesOwn.never rfl (pi_list (pv 1)) (pg_name (i := 5) sc__law_met.nd rfl (by first | exact Or.inl rfl | exact Or.inr rfl)) (pss_one (ps_if (pt_val (pe_ix (k_ixl (K := K) rfl) (pv 3) (pe_ix (k_ixt (K := K) rfl) (pv 5) pe_int (fun _ _ => rfl)) (fun _ _ => rfl))) (pss_one (ps_asg pe_bl (pg_sub (pv 3) (pe_ix (k_ixt (K := K) rfl) (pv 5) pe_int (fun _ _ => rfl)) set_list))) pss_nil)))))
      (pss_one (ps_ret (pe_lc (own := [("_law_place", 6)]) (g := gName 6) rfl sc__law_met.nd (pi_range1 (by rfl) T.b_range (pa_cons (pv 0) pa_nil)) (blkOk_by (N := N__law_met) (sc := defScope s__law_met) (by decide +kernel)) (fun _ _ _ _ _ => pg_name (i := 6) sc__law_met.nd rfl (Or.inl rfl)) (fun _ _ _ _ _ => (pts_one (pt_val (pe_ix (k_ixl (K := K) rfl) (pv 3) (pv 6) (fun _ _ => rfl))))) (fun _ _ _ _ _ => (pv 6))))))), ?_⟩
  cases h0
  cases h2
  obtain ⟨hm1, hm12, hok, hr0, hr1⟩ := hp
  refine q_setM (i := 3) (em_lcR (F := eB) (p := fun _ => true) (Tr := fun k y => y = decide (k = y2)) x0 (es_varI x0 rfl) (by omega) (by omega) (fun v => rfl) (fun k B2 H2 s2 _ _ => et_yes) (fun k B2 H2 s2 _ _ _ => es_eqI s2.bh (es_varI s2.bh rfl) (es_varI s2.bh rfl))) fun l vs xs B1 H1 s1 nl bl hl hx hp => ?_
  rw [filter_yes] at hx
  have hx := pair_fun (f := fun k => decide (k = y2)) hx
  subst hx
  rw [pB hp] at hl
  have c1 : Cell H B1 H1 l (.lst (((rg y0).map fun k => decide (k = y2)).map V.bl)) := ⟨nl, bl, hl⟩
  replace h1 := Enc.up _ s1.eb h1
  have hs0 := marks0 (rs := y1) hr0 hr1
  have ht0 : Turned y1 0 ((rg y0).map fun k => decide (k = y2)) := .inr (cnt_pos hs0.rt)
  clear hp nl bl hl
  have x1 := s1.bh
  refine q_forR (es_varI x1 rfl) ⟨by omega, by omega⟩ (fun i σ' H' => ∃ a b, ∃ bs : List Bool, σ' = [some (.int y0), some v1, some (.int y2), some (.ref l), a, b, none] ∧ Stp B H B1 H' ∧ Cell H B1 H' l (.lst (bs.map V.bl)) ∧ Sound y0 y1 y2 bs ∧ Turned y1 i bs)
    (fun H2 e2 => ⟨none, none, _, rfl, s1.goH e2, c1.go e2, hs0, ht0⟩) (fun i σ' H' hi w => ?_) (fun σ' H' w => ?_)
  · obtain ⟨a, b, b0, rfl, s2, c2, hS2, hT2⟩ := w
    refine c_forE (E := eR) s2.bh ⟨_, ev_var (i := 1) rfl, h1⟩ (fun j σ' H' => ∃ b, ∃ bs : List Bool, σ' = [some (.int y0), some v1, some (.int y2), some (.ref l), some (.int i), b, none] ∧ Stp B H B1 H' ∧ Cell H B1 H' l (.lst (bs.map V.bl)) ∧ Sound y0 y1 y2 bs ∧ Within y1 b0 j bs)
      (fun H3 e3 => ⟨_, b0, rfl, s2.goH e3, c2.go e3, hS2, within_start _ _⟩) (fun i σ' H' ⟨_, _, _, s, _⟩ => s.bh) (fun j r v σ' H' hj hv w => ?_) (fun σ' H' w => ?_)
    · obtain ⟨b, bs, rfl, s3, c3, hS3, hW⟩ := w
      have x3 := Ex.refl H'
      have hm : r ∈ y1 := List.mem_of_getElem? hj
      have hrr := hok r hm
      obtain ⟨k1, k2, k3, k4, _⟩ := id hrr
      have hlen := hS3.len
      have i1 : r.1.toNat < bs.length := by omega
      have i2 : r.2.1.toNat < bs.length := by omega
      refine s_when (et_sB (es_ixL (E := eB) (x := bs[r.1.toNat]) x3 (es_var x3 rfl (cell_L c3 (pB' bs))) (es_30 x3 (es_var x3 rfl (Enc.up _ s3.bh hv))) k1 (List.getElem?_eq_getElem i1))) (fun hb H4 e4 => ?_) (fun hb H4 e4 => ⟨_, bs, rfl, s3.goH e4, c3.go e4, hS3, within_no hW hj ?_⟩)
      · have hmk : Mk bs r.1 := by
          unfold Mk
          rw [List.getElem?_eq_getElem i1, hb]
        refine c_setL (i := 3) (j := r.2.1.toNat) (v := .bl true) (c3.go e4) (s3.goH e4) ev_c rfl ((es_31 (s3.goH e4).bh (es_var (s3.goH e4).bh rfl hv)).to (Int.toNat_of_nonneg k3).symm) (by rw [List.length_map]; exact i2) fun H5 s5 c5 _ => ⟨_, bs.set r.2.1.toNat true, rfl, s5, ?_, hS3.set hm hrr hmk, within_yes hW hj i2 hmk⟩
        rw [mapB]
        exact c5
      · intro hmk
        unfold Mk at hmk
        rw [List.getElem?_eq_getElem i1, hb] at hmk
        cases hmk
    · obtain ⟨b, bs, rfl, s3, c3, hS3, hW⟩ := w
      exact ⟨_, b, bs, rfl, s3, c3, hS3, turned_next hT2 hW⟩
  obtain ⟨a, b, bs, rfl, s2, c2, hS2, hT2⟩ := w
  have hshut := turned_end hT2 hS2.len
  have hlen := hS2.len
  have x2 := s2.bh
  refine c_ret s2 (em_lcR (F := eI) (p := fun k => bs.getD k.toNat false) (Tr := fun k y => y = k) x2 (es_varI x2 rfl) (by omega) (by omega) (fun v => rfl) (fun k B2 H2 s2 hk0 hk1 => ?_) (fun k B2 H2 s2 _ _ _ => es_varI s2.bh rfl)).s fun w y B3 H3 s hy hR => q w y B3 H3 s ?_ hR
  · have hi : k.toNat < bs.length := by omega
    have e : bs.getD k.toNat false = bs[k.toNat] := by rw [List.getD_eq_getElem?_getD, List.getElem?_eq_getElem hi]; rfl
    rw [e]
    exact et_sB (es_ixL (E := eB) (Ex.refl H2) (es_var (Ex.refl H2) rfl (cell_L (c2.go s2.eh) (pB' bs))) (es_varI (Ex.refl H2) rfl) hk0 (List.getElem?_eq_getElem hi))
  · have e := pair_fun (f := fun k => k) hy
    rw [e, List.map_id']
    refine ⟨up_filter _ (up_rg _), fun v => ?_⟩
    rw [List.mem_filter, mem_rg]
    have key : ∀ v : Int, (bs.getD v.toNat false = true) ↔ Mk bs v := fun v => by
      unfold Mk
      rw [List.getD_eq_getElem?_getD]
      cases bs[v.toNat]? with
      | none => simp
      | some b => simp
    rw [key]
    constructor
    · rintro ⟨⟨h3, h4⟩, h5⟩
      exact hS2.snd v h3 h5
    · intro h3
      have h4 := h3.inE ⟨hr0, hr1⟩ (Net.inE hok)
      exact ⟨h4, (hS2.all hshut h4.1).mpr h3⟩

abbrev sp_numbers : Sp := Spec (ar2 (eL eI) (eL eI)) (fun i => i.1 = i.2) eB (fun _ y => y = true)
theorem d__law_numbers (F0 : FunAt K mg "_law_numbers" s__law_numbers) (T : Txt K mg)  : DefOk P w K mg base 1 "_law_numbers" ["_law_found", "_law_due"] sp_numbers := by
  refine mk_def (k := 0) F0 sc__law_numbers (fun _ _ _ _ _ _ us hl => match us, hl with | [_, _], _ => rfl) (fun _ => (lenC (lenC lenN))) ?_
  intro f cdv A0 outer s E i B H vs Q hr x0 hA hp q
  obtain ⟨v0, _, _, rfl, rfl, h0, v1, _, _, rfl, rfl, h1, rfl⟩ := hA
  obtain ⟨y0, y1⟩ := i
  (try dsimp only at h0); (try dsimp only at h1); (try dsimp only at hp); (try dsimp only at q)
  refine ⟨_, (pss_cons (ps_if (pw_or (pt_not (pt_val (pe_callB (k_isi (K := K) rfl) (by rfl) T.b_isinstance (by decide +kernel) (pa_cons (pv 0) (pa_cons (pe_bltn (v := .ty "list") (u := .type "list") (by rfl) T.b_list (by decide +kernel) rfl) pa_nil))))) (pw_or1 (pt_cmpR (k_neD hr.units (K := K) rfl) (pv 0) (pv 1) (nomark _)))).pt (pss_one (ps_ret pe_bl)) pss_nil)
      (pss_cons (ps_for PassesOwn.never rfl (pi_list (pv 0)) (pg_name (i := 2) sc__law_numbers.nd rfl (by first | exact Or.inl rfl | exact Or.inr rfl)) (pss_one (ps_if (pw_or (pt_not (pt_val (pe_callB (k_isi (K := K) rfl) (by rfl) T.b_isinstance (by decide +kernel) (pa_cons (pv 2) (pa_cons (pe_bltn (v := .ty "int") (u := .type "int") (by rfl) T.b_int (by decide +kernel) rfl) pa_nil))))) (pw_or1 (pt_val (pe_callB (k_isi (K := K) rfl) (by rfl) T.b_isinstance (by decide +kernel) (pa_cons (pv 2) (pa_cons (pe_bltn (v := .ty "bool") (u := .type "bool") (by rfl) T.b_bool (by decide +kernel) rfl) pa_nil)))))).pt (pss_one (ps_ret pe_bl)) pss_nil)))
      (pss_one (ps_ret pe_bl)))), ?_⟩
  have hp : y0 = y1 := hp
  subst hp
  refine q_when (et_or (et_not (et_sB (es_isiL x0 (es_var x0 rfl h0) k_ll))) fun _ => et_sT (es_neSame (deL deI) (by decide) x0 (es_var x0 rfl h0) (es_var x0 rfl h1))) (fun hb => by cases hb) (fun _ H1 e1 => ?_)
  have s1 := Stp.go x0 e1
  refine q_forE s1.bh ⟨_, ev_var (i := 0) rfl, h0⟩ (fun i σ' H' => ∃ c, σ' = [some v0, some v1, c] ∧ Stp B H B H')
    (fun H4 e4 => ⟨none, rfl, s1.goH e4⟩) (fun i σ' H' ⟨_, _, s⟩ => s.bh) (fun i z v σ' H' hi hv w => ?_) (fun σ' H' w => ?_)
  · obtain ⟨c, rfl, s⟩ := w
    cases hv
    exact s_when (et_whole s.bh (es_varI s.bh rfl) (es_varI s.bh rfl)) (fun hb => by cases hb) fun _ H5 e5 => ⟨_, rfl, s.goH e5⟩
  · obtain ⟨c, rfl, s⟩ := w
    exact c_ret s (es_bl s.bh) fun w y B3 H3 s hy hR => q w y B3 H3 s hy hR
end
end RR
namespace RR
open PySem L2 Evl PyProof.Rows
section
variable {P : Program} {w : World} {K : PySem.W.Frag} {mg : Str → Option Value} {base : Heap}

abbrev sp_roads (K : PySem.W.Frag) : Sp := Spec (ar4 (eScr K) eI eI eI) (fun i => i.1.length ≤ 63 ∧ (∀ n ∈ i.1, Bd n) ∧ 1 ≤ i.2.1 ∧ i.2.1 ≤ 12 ∧ 0 ≤ i.2.2.1 ∧ i.2.2.1 < i.2.1) (eL eR) (fun i rs => rs.length ≤ 60 ∧ ∀ r ∈ rs, OkR i.2.1 r)
theorem d__law_roads (F0 : FunAt K mg "_law_roads" s__law_roads) (T : Txt K mg) (G__law_cell_at : DefOk P w K mg base 1 "_law_cell_at" ["_law_script", "_law_k"] (sp_cell K)) (G__law_mixed : DefOk P w K mg base 1 "_law_mixed" ["_law_cell", "_law_k"] sp_mixed) (G__law_cost : DefOk P w K mg base 1 "_law_cost" ["_law_cell"] sp_cost) (G__law_road : DefOk P w K mg base 2 "_law_road" ["_law_cell", "_law_many_here"] sp_road) : DefOk P w K mg base 3 "_law_roads" ["_law_script", "_law_many_here", "_law_root", "_law_most"] (sp_roads K) := by
  refine mk_def (k := 2) F0 sc__law_roads (fun _ _ _ _ _ _ us hl => match us, hl with | [_, _, _, _], _ => rfl) (fun _ => (lenC (lenC (lenC (lenC lenN))))) ?_
  intro f cdv A0 outer s E i B H vs Q hr x0 hA hp q
  obtain ⟨v0, _, _, rfl, rfl, h0, v1, _, _, rfl, rfl, h1, v2, _, _, rfl, rfl, h2, v3, _, _, rfl, rfl, h3, rfl⟩ := hA
  obtain ⟨y0, y1, y2, y3⟩ := i
  (try dsimp only at h0); (try dsimp only at h1); (try dsimp only at h2); (try dsimp only at h3); (try dsimp only at hp); (try dsimp only at q)
  refine ⟨_, (pss_cons (ps_if (pt_cmpR op_eq (pv 1) pe_int (nomark _)) (pss_one (ps_ret (pe_lst pa_nil))) pss_nil)
      (pss_cons (ps_set (i := 4) sc__law_roads.nd rfl (by first | exact Or.inl rfl | exact Or.inr rfl) (pe_lst pa_nil))
      (pss_cons (ps_set (i := 5) sc__law_roads.nd rfl (by first | exact Or.inl rfl | exact Or.inr rfl) (pe_op op_mod (pv 3) (pv 1)))
      (pss_cons (ps_for PassesOwn.never rfl (pi_range2 (by rfl) T.b_range (pa_cons pe_int (pa_cons (pe_op op_add (pv 5) pe_int) pa_nil))) (pg_name (i := 6) sc__law_roads.nd rfl (by first | exact Or.inl rfl | exact Or.inr rfl)) (pss_cons (ps_set (i := 7) sc__law_roads.nd rfl (by first | exact Or.inl rfl | exact Or.inr rfl) (pe_callD G__law_mixed (hr.mono (by decide)) (by rfl) (pa_cons (pe_callD G__law_cell_at (hr.mono (by decide)) (by rfl) (pa_cons (pv 0) (pa_cons pe_int pa_nil))) (pa_cons (pv 6) pa_nil))))
      (pss_cons (ps_set (i := 8) sc__law_roads.nd rfl (by first | exact Or.inl rfl | exact Or.inr rfl) (pe_op op_mod (pe_op op_add (pv 2) (pe_op op_mod (pv 7) (pv 6))) (pv 1)))
      (pss_one (ps_expr (pe_bm PySem.F.plainAttrs_list PySem.F.slot_list_append PySem.F.type_list_append mt_append (pv 4) (pa_cons (pe_tup (pa_cons (pv 8) (pa_cons (pe_op op_mod (pe_op op_add (pv 2) (pv 6)) (pv 1)) (pa_cons (pe_callD G__law_cost (hr.mono (by decide)) (by rfl) (pa_cons (pe_op op_fdiv (pv 7) (pv 6)) pa_nil)) pa_nil)))) pa_nil)))))))
      (pss_cons (ps_set (i := 4) sc__law_roads.nd rfl (by first | exact Or.inl rfl | exact Or.inr rfl) (pe_op op_cat (pv 4) (pe_lc (own := [("_law_cell", 10)]) (g := gName 10) rfl sc__law_roads.nd (pi_list (pe_slice (k_sll (K := K) rfl) (pv 0) (po_some pe_int) (po_some pe_int))) (blkOk_by (N := N__law_roads) (sc := defScope s__law_roads) (by decide +kernel)) (fun _ _ _ _ _ => pg_name (i := 10) sc__law_roads.nd rfl (Or.inl rfl)) (fun _ _ _ _ _ => pts_nil) (fun _ _ _ _ _ => (pe_callD G__law_road (hr.mono (by decide)) (by rfl) (pa_cons (pv 10) (pa_cons (pv 1) pa_nil)))))))
      (pss_cons (ps_set (i := 9) sc__law_roads.nd rfl (by first | exact Or.inl rfl | exact Or.inr rfl) (pe_op op_mod (pe_callD G__law_cell_at (hr.mono (by decide)) (by rfl) (pa_cons (pv 0) (pa_cons pe_int pa_nil))) (pe_op op_add (pe_callB (k_len (K := K) rfl) (by rfl) T.b_len (by decide +kernel) (pa_cons (pv 4) pa_nil)) pe_int)))
      (pss_one (ps_ret (pe_op op_cat (pe_slice (k_sll (K := K) rfl) (pv 4) (po_some (pv 9)) po_none) (pe_slice (k_sll (K := K) rfl) (pv 4) po_none (po_some (pv 9)))))))))))), ?_⟩
  cases h1
  cases h2
  cases h3
  obtain ⟨hlen, hbd, hm1, hm12, hr0, hr1⟩ := hp
  refine q_when (et_sT (es_eqI x0 (es_varI x0 rfl) (es_int x0))) (fun hb H1 e1 => ?_) (fun hb H1 e1 => ?_)
  · refine c_ret (Stp.go x0 e1) (em_nil (E := eR) (x0.trans e1)).s fun w y B2 H2 s hy hR => q w y B2 H2 s ?_ hR
    subst hy
    exact ⟨Nat.zero_le _, fun r hr => absurd hr (by simp)⟩
  have hm2 : 2 ≤ y1 := by
    have := of_decide_eq_false hb
    omega
  refine q_setM (i := 4) (em_nil (E := eR) (x0.trans e1)) fun l vs xs B1 H2 s1 nl bl hl hx hR => ?_
  cases hx
  cases hR
  replace s1 := (Stp.go x0 e1).trans s1
  have c1 : Cell H B1 H2 l (.lst []) := ⟨fresh_back e1 nl, bl, hl⟩
  replace h0 := Enc.up _ s1.eb h0
  have x1 := s1.bh
  have hc0 := Int.emod_nonneg y3 (show y1 ≠ 0 by omega)
  have hc1 := Int.emod_lt_of_pos y3 (show 0 < y1 by omega)
  refine q_setI (i := 5) (es_opC x1 (es_varI x1 rfl) (es_varI x1 rfl) (by first | (show (0 : Int) < _; omega) | (show (0 : Int) < _; decide +kernel))) fun H3 e3 => ?_
  replace s1 := s1.goH e3
  replace c1 := c1.go e3
  clear x1
  have x1 := s1.bh
  refine q_forR2' (es_int x1) (es_opI x1 (es_varI x1 rfl) (es_int x1)) ⟨by omega, by omega, by omega, by omega⟩ (fun i σ' H' => ∃ a b c B' vs rs, σ' = [some v0, some (.int y1), some (.int y2), some (.int y3), some (.ref l), some (.int (y3 % y1)), a, b, c, none, none] ∧ Stp B H B' H' ∧ Ex B1 B' ∧ Cell H B' H' l (.lst vs) ∧ Paired (eR.R B') vs rs ∧ (∀ r ∈ rs, OkR y1 r) ∧ rs.length ≤ i)
    (fun H4 e4 => ⟨none, none, none, B1, [], [], rfl, s1.goH e4, Ex.refl _, c1.go e4, .nil, fun r hr => absurd hr (by simp), Nat.le_refl _⟩) (fun i σ' H' hi w => ?_) (fun σ' H' w => ?_)
  · obtain ⟨a, b, c, B', vs, rs, rfl, s2, eb, c2, hR, hok, hl2⟩ := w
    have x2 := s2.bh
    have h0' := Enc.up _ eb h0
    refine q_setI (i := 7) (es_call ((cellM y0 3, 1 + (i : Int))) x2 (ea_c x2 (mono_aC mono_aN) (es_call ((y0, 3)) x2 (ea_c x2 (mono_aC mono_aN) (es_var x2 rfl h0') (ea_c x2 mono_aN (es_int x2) (ea_n x2))) (by show (0 : Int) ≤ _; omega)) (ea_c x2 mono_aN (es_varI x2 rfl) (ea_n x2))) (⟨by show (-1000 : Int) ≤ _; omega, by show _ ≤ (1000 : Int); omega⟩)) fun H5 e5 => ?_
    have hk0 : (0 : Int) < 1 + i := by omega
    have hn0 := Int.emod_nonneg (mixedM (cellM y0 3) (1 + i)) (show (1 + (i : Int)) ≠ 0 by omega)
    have hn1 := Int.emod_lt_of_pos (mixedM (cellM y0 3) (1 + i)) hk0
    have hrd := round_ne hr0 hr1 hn0 hn1 (by omega)
    have x3 := x2.trans e5
    refine q_setI (i := 8) (es_opC x3 (es_opI x3 (es_varI x3 rfl) (es_opC x3 (es_varI x3 rfl) (es_varI x3 rfl) (by first | (show (0 : Int) < _; omega) | (show (0 : Int) < _; decide +kernel)))) (es_varI x3 rfl) (by first | (show (0 : Int) < _; omega) | (show (0 : Int) < _; decide +kernel))) fun H6 e6 => ?_
    have x4 := x3.trans e6
    refine c_app (i := 4) ((c2.go e5).go e6) ((s2.goH e5).goH e6) rfl (by rw [pl hR]; omega) (es_tup3 x4 (es_varI (i := 8) x4 rfl) (es_opC x4 (es_opI x4 (es_varI x4 rfl) (es_varI x4 rfl)) (es_varI x4 rfl) (by first | (show (0 : Int) < _; omega) | (show (0 : Int) < _; decide +kernel))) (es_call (mixedM (cellM y0 3) (1 + i) / (1 + i)) x4 (ea_c x4 mono_aN (es_opC x4 (es_varI x4 rfl) (es_varI x4 rfl) (⟨by omega, by omega⟩)) (ea_n x4)) (Bd.div (mixedM_bd _ _) hk0))) fun v r B4 H8 s10 eb10 c10 _ hr hv => ?_
    obtain ⟨q1, q2, q3⟩ := hr
    refine ⟨_, _, _, B4, _, rs ++ [r], rfl, s10, eb.trans eb10, c10, Paired.snoc (Enc.ups _ eb10 hR) hv, fun z hz => ?_, by rw [List.length_append, List.length_singleton]; omega⟩
    rcases List.mem_append.mp hz with hz | hz
    · exact hok z hz
    · rw [List.mem_singleton.mp hz]
      exact ⟨by rw [q1]; exact hrd.1, by rw [q1]; exact hrd.2.1, by rw [q2]; exact hrd.2.2.1, by rw [q2]; exact hrd.2.2.2.1, by rw [q1, q2]; exact hrd.2.2.2.2, q3.1, q3.2⟩
  obtain ⟨a, b, c, B2, vs, rs, rfl, s2, eb, c2, hR, hok, hl2⟩ := w
  replace h0 := Enc.up _ eb h0
  have hl2 : rs.length ≤ 11 := by omega
  clear s1 c1 x1
  obtain ⟨B3, s3, eb3, hL, _⟩ := cell_pub (E := eR) c2 s2 hR
  replace h0 := Enc.up _ eb3 h0
  have x3 := s3.bh
  clear c2 s2 hR
  have hcut : ∀ n ∈ cutP y0 (some 5) (some 35), Bd n := fun n hn => hbd n (cutP_mem hn)
  have hcl : (cutP y0 (some 5) (some 35)).length ≤ 30 := cutP_seg y0 (by decide) (by decide)
  refine q_setS (i := 4) (em_catS (S := fun ys => ys = rs) (T := fun ys => Paired (fun _ r => OkR y1 r) ((cutP y0 (some 5) (some 35)).filter fun _ => true) ys) x3 (es_var x3 rfl hL) (em_lcL (E := eI) (F := eR) (p := fun _ => true) (Tr := fun _ r => OkR y1 r) x3 (em_slS x3 (es_var x3 rfl h0) (eo_some' (es_int x3)) (eo_some' (es_int x3))).s (by omega) (fun v => rfl) (fun _ _ _ _ _ _ _ => et_yes) (fun z v B5 H5 s5 hz hR _ => ?_)).s (fun xs ys hx hy => ?_)).s fun v zs B4 H8 s4 hz hv => ?_
  · cases hR
    exact es_call (z, y1) s5.bh (ea_c s5.bh (mono_aC mono_aN) (es_varI s5.bh rfl) (ea_c s5.bh mono_aN (es_varI s5.bh rfl) (ea_n s5.bh))) ⟨hcut z hz, hm2, hm12⟩
  · rw [filter_yes] at hy
    have := pair_len hy
    subst hx
    omega
  obtain ⟨xs, ys, rfl, hy, rfl⟩ := hz
  rw [filter_yes] at hy
  have hyl := pair_len hy
  have hyo : ∀ r ∈ ys, OkR y1 r := pair_all (P := OkR y1) (fun _ _ h => h) hy
  have hall : ∀ r ∈ xs ++ ys, OkR y1 r := fun r hr => by
    rcases List.mem_append.mp hr with hr | hr
    · exact hok r hr
    · exact hyo r hr
  have hlz : (xs ++ ys).length ≤ 50 := by
    rw [List.length_append]
    omega
  generalize xs ++ ys = zs at hall hlz hv
  clear hy hyl hyo hok hl2 hL
  replace s3 := s3.trans s4
  replace h0 := Enc.up _ s4.eb h0
  have x4 := s3.bh
  have hz0 := Int.emod_nonneg (cellM y0 4) (show (zs.length : Int) + 1 ≠ 0 by omega)
  have hz1 := Int.emod_lt_of_pos (cellM y0 4) (show 0 < (zs.length : Int) + 1 by omega)
  refine q_setI (i := 9) (es_opC x4 (es_call ((y0, 4)) x4 (ea_c x4 (mono_aC mono_aN) (es_var x4 rfl h0) (ea_c x4 mono_aN (es_int x4) (ea_n x4))) (by show (0 : Int) ≤ _; omega)) (es_opI x4 (es_lenL x4 (es_var x4 rfl hv)) (es_int x4)) (by first | (show (0 : Int) < _; omega) | (show (0 : Int) < _; decide +kernel))) fun H9 e9 => ?_
  have x5 := x4.trans e9
  refine c_ret (s3.goH e9) (em_cat x5 (em_slL x5 (es_var x5 rfl hv) (eo_some' (es_varI x5 rfl)) eo_none).s (em_slL x5 (es_var x5 rfl hv) eo_none (eo_some' (es_varI x5 rfl))).s ?_).s fun w y B3 H3 s hy hR => q w y B3 H3 s ?_ hR
  · rw [cutP_from _ hz0 (by omega), cutP_to _ hz0 (by omega), List.length_drop, List.length_take]
    omega
  · rw [hy, cutP_from _ hz0 (by omega), cutP_to _ hz0 (by omega)]
    refine ⟨by rw [List.length_append, List.length_drop, List.length_take]; omega, fun r hr => ?_⟩
    rcases List.mem_append.mp hr with hr | hr
    · exact hall r (List.mem_of_mem_drop hr)
    · exact hall r (List.mem_of_mem_take hr)

abbrev spLaw (K : PySem.W.Frag) : Sp := Spec (ar1 (eScr K)) (fun ns => ns.length ≤ 63 ∧ ∀ n ∈ ns, Bd n) eB (fun _ y => y = true)
theorem d_law {f : Addr} {fd : FuncData} (F0 : Fun K "law" "law" s_law f fd) (T : Txt K mg) (G__law_cell_at : DefOk P w K mg base 1 "_law_cell_at" ["_law_script", "_law_k"] (sp_cell K)) (G__law_many : DefOk P w K mg base 1 "_law_many" ["_law_cell"] sp_many) (G__law_roads : DefOk P w K mg base 3 "_law_roads" ["_law_script", "_law_many_here", "_law_root", "_law_most"] (sp_roads K)) (G__law_met : DefOk P w K mg base 1 "_law_met" ["_law_many_here", "_law_roads_here", "_law_root"] sp_met) (G__law_numbers : DefOk P w K mg base 1 "_law_numbers" ["_law_found", "_law_due"] sp_numbers) (G_reached : DefOk P w K mg base 5 "reached" ["many", "roads", "root"] sp_reached) (G_cut_off : DefOk P w K mg base 6 "cut_off" ["many", "roads", "root"] sp_cut) : FnOk P w K mg base CX0 7 f fd ["_law_script"] (spLaw K) := by
  refine mk_fn (k := 6) F0 sc_law (fun _ => (lenC lenN)) ?_
  intro cdv A0 outer s E i B H vs Q hr x0 hA hp q
  obtain ⟨v0, y0, _, rfl, rfl, h0, rfl⟩ := hA
  refine ⟨_, (pss_cons (ps_set (i := 1) sc_law.nd rfl (by first | exact Or.inl rfl | exact Or.inr rfl) (pe_callD G__law_many (hr.mono (by decide)) (by rfl) (pa_cons (pe_callD G__law_cell_at (hr.mono (by decide)) (by rfl) (pa_cons (pv 0) (pa_cons pe_int pa_nil))) pa_nil)))
      (pss_cons (ps_set (i := 2) sc_law.nd rfl (by first | exact Or.inl rfl | exact Or.inr rfl) (pe_op op_mod (pe_callD G__law_cell_at (hr.mono (by decide)) (by rfl) (pa_cons (pv 0) (pa_cons pe_int pa_nil))) (pv 1)))
      (pss_cons (ps_set (i := 3) sc_law.nd rfl (by first | exact Or.inl rfl | exact Or.inr rfl) (pe_callD G__law_roads (hr.mono (by decide)) (by rfl) (pa_cons (pv 0) (pa_cons (pv 1) (pa_cons (pv 2) (pa_cons (pe_callD G__law_cell_at (hr.mono (by decide)) (by rfl) (pa_cons (pv 0) (pa_cons pe_int pa_nil))) pa_nil))))))
      (pss_cons (ps_set (i := 4) sc_law.nd rfl (by first | exact Or.inl rfl | exact Or.inr rfl) (pe_callTy (k_list (K := K) rfl) (by rfl) T.b_list (by decide +kernel) (pa_cons (pv 3) pa_nil)))
      (pss_cons (ps_set (i := 5) sc_law.nd rfl (by first | exact Or.inl rfl | exact Or.inr rfl) (pe_callD G__law_met (hr.mono (by decide)) (by rfl) (pa_cons (pv 1) (pa_cons (pv 3) (pa_cons (pv 2) pa_nil)))))
      (pss_cons (ps_set (i := 6) sc_law.nd rfl (by first | exact Or.inl rfl | exact Or.inr rfl) (pe_lc (own := [("_law_place", 8)]) (g := gName 8) rfl sc_law.nd (pi_range1 (by rfl) T.b_range (pa_cons (pv 1) pa_nil)) (blkOk_by (N := N_law) (sc := defScope s_law) (by decide +kernel)) (fun _ _ _ _ _ => pg_name (i := 8) sc_law.nd rfl (Or.inl rfl)) (fun _ _ _ _ _ => (pts_one (pt_cmpR (k_notin (K := K) rfl) (pv 8) (pv 5) (by rfl)))) (fun _ _ _ _ _ => (pv 8))))
      (pss_cons (ps_if (pt_not (pt_val (pe_callD G__law_numbers (hr.mono (by decide)) (by rfl) (pa_cons (pe_callD G_reached (hr.mono (by decide)) (by rfl) (pa_cons (pv 1) (pa_cons (pv 4) (pa_cons (pv 2) pa_nil)))) (pa_cons (pv 5) pa_nil))))) (pss_one (ps_ret pe_bl)) pss_nil)
      (pss_cons (ps_if (pt_not (pt_val (pe_callD G__law_numbers (hr.mono (by decide)) (by rfl) (pa_cons (pe_callD G_cut_off (hr.mono (by decide)) (by rfl) (pa_cons (pv 1) (pa_cons (pv 4) (pa_cons (pv 2) pa_nil)))) (pa_cons (pv 6) pa_nil))))) (pss_one (ps_ret pe_bl)) pss_nil)
      (pss_cons (ps_setLc (i := 7) (own := [("_law_road_here", 9)]) (g := gName 9) rfl sc_law.nd rfl rfl (sw_true rfl rfl rfl (by decide +kernel)) (pi_list (pv 3)) (blkOk_by (N := N_law) (sc := defScope s_law) (by decide +kernel)) (fun _ _ _ _ _ => pg_name (i := 9) sc_law.nd rfl (Or.inl rfl)) (fun _ _ _ _ _ => (pts_one (pw_and (pt_cmpR (k_in (K := K) rfl) (pe_ix (k_ixt (K := K) rfl) (pv 9) pe_int (fun _ _ => rfl)) (pv 6) (by rfl)) (pw_and1 (pt_cmpR (k_notin (K := K) rfl) (pe_ix (k_ixt (K := K) rfl) (pv 9) pe_int (fun _ _ => rfl)) (pv 6) (by rfl)))).pt)) (fun _ _ _ _ _ => (pv 9)))
      (pss_one (ps_ret (pe_and (pe_cmpR (k_eqD hr.units (K := K) rfl) (pv 4) (pv 3) (nomark _)) (pe_one (pe_cmpR (k_eqD hr.units (K := K) rfl) (pv 7) (pe_lst pa_nil) (nomark _))))))))))))))), ?_⟩
  obtain ⟨hlen, hbd⟩ := hp
  refine q_setS (es_call (cellM y0 0) x0 (ea_c x0 mono_aN (es_call ((y0, 0)) x0 (ea_c x0 (mono_aC mono_aN) (es_var x0 rfl h0) (ea_c x0 mono_aN (es_int x0) (ea_n x0))) (by show (0 : Int) ≤ _; omega)) (ea_n x0)) True.intro) fun v m B1 H1 s1 hm hv => ?_
  cases hv
  replace h0 := Enc.up _ s1.eb h0
  have x1 := s1.bh
  refine q_setI (i := 2) (es_opC x1 (es_call ((y0, 1)) x1 (ea_c x1 (mono_aC mono_aN) (es_var x1 rfl h0) (ea_c x1 mono_aN (es_int x1) (ea_n x1))) (by show (0 : Int) ≤ _; omega)) (es_varI x1 rfl) (by first | (show (0 : Int) < _; omega) | (show (0 : Int) < _; decide +kernel))) fun H2 e2 => ?_
  replace s1 := s1.goH e2
  have hr0 := Int.emod_nonneg (cellM y0 1) (show m ≠ 0 by omega)
  have hr1 := Int.emod_lt_of_pos (cellM y0 1) (show 0 < m by omega)
  generalize hroot : cellM (y0, (1 : Int)).1 (y0, (1 : Int)).2 % m = root
  have hr0 : 0 ≤ root := by rw [← hroot]; exact hr0
  have hr1 : root < m := by rw [← hroot]; exact hr1
  clear x1 hroot
  have x1 := s1.bh
  refine q_setS (es_call (y0, m, root, cellM y0 2) x1 (ea_c x1 (mono_aC (mono_aC (mono_aC mono_aN))) (es_var x1 rfl h0) (ea_c x1 (mono_aC (mono_aC mono_aN)) (es_varI x1 rfl) (ea_c x1 (mono_aC mono_aN) (es_varI x1 rfl) (ea_c x1 mono_aN (es_call ((y0, 2)) x1 (ea_c x1 (mono_aC mono_aN) (es_var x1 rfl h0) (ea_c x1 mono_aN (es_int x1) (ea_n x1))) (by show (0 : Int) ≤ _; omega)) (ea_n x1))))) ⟨hlen, hbd, hm.1, hm.2, hr0, hr1⟩) fun v2 rs B2 H3 s2 hrs hv2 => ?_
  obtain ⟨hl60, hok⟩ := hrs
  have hnet : Net m rs := ⟨hm.1, hm.2, hl60, hok⟩
  replace s1 := s1.trans s2
  replace h0 := Enc.up _ s2.eb h0
  have x2 := s1.bh
  refine q_setS (em_listL x2 (es_var x2 rfl hv2)).s fun v3 zs B3 H4 s3 hz hv3 => ?_
  cases hz
  replace s1 := s1.trans s3
  replace hv2 := Enc.up _ s3.eb hv2
  clear x1 x2
  have x2 := s1.bh
  refine q_setS (es_call (m, rs, root) x2 (ea_c x2 (mono_aC (mono_aC mono_aN)) (es_varI x2 rfl) (ea_c x2 (mono_aC mono_aN) (es_var x2 rfl hv2) (ea_c x2 mono_aN (es_varI x2 rfl) (ea_n x2)))) ⟨hm.1, hm.2, hok, hr0, hr1⟩) fun v4 due B4 H5 s4 hdue hv4 => ?_
  replace s1 := s1.trans s4
  replace hv2 := Enc.up _ s4.eb hv2
  replace hv3 := Enc.up _ s4.eb hv3
  clear x2 s2 s3 s4
  have x2 := s1.bh
  have hdl : ∀ v, v ∈ due ↔ Rch (ends rs) root v := hdue.2
  refine q_setS (em_lcR (F := eI) (p := fun k => !decide (k ∈ due)) (Tr := fun k y => y = k) x2 (es_varI x2 rfl) (by omega) (by omega) (fun v => rfl) (fun k B5 H6 s5 _ _ => ?_) (fun k B5 H6 s5 _ _ _ => es_varI s5.bh rfl)).s fun v5 oth B5 H6 s5 ho hv5 => ?_
  · exact et_sT (es_ninL s5.bh (es_varI s5.bh rfl) (es_var s5.bh rfl (Enc.up _ s5.eb hv4)))
  have ho := pair_fun (f := fun k => k) ho
  rw [List.map_id'] at ho
  have hcut : IsCut m rs root oth := by
    rw [ho]
    refine ⟨up_filter _ (up_rg _), fun v => ?_⟩
    rw [List.mem_filter, mem_rg]
    have := hdl v
    constructor
    · rintro ⟨⟨a, b⟩, c⟩
      exact ⟨a, b, fun r => by simp [this.mpr r] at c⟩
    · rintro ⟨a, b, c⟩
      have h3 : ¬ v ∈ due := fun h => c (this.mp h)
      exact ⟨⟨a, b⟩, by simp [h3]⟩
  clear ho
  replace s1 := s1.trans s5
  replace hv2 := Enc.up _ s5.eb hv2
  replace hv3 := Enc.up _ s5.eb hv3
  replace hv4 := Enc.up _ s5.eb hv4
  clear x2 s5
  have x2 := s1.bh
  -- reached
  refine q_when (et_not (et_sB (es_call (F := eB) (A := ar2 (eL eI) (eL eI)) (Post := fun _ y => y = true) (Pre := fun i => i.1 = i.2) (due, due) x2 (ea_c x2 (mono_aC mono_aN) ((es_call (m, rs, root) x2 (ea_c x2 (mono_aC (mono_aC mono_aN)) (es_varI x2 rfl) (ea_c x2 (mono_aC mono_aN) (es_var x2 rfl hv3) (ea_c x2 mono_aN (es_varI x2 rfl) (ea_n x2)))) ⟨hnet, hr0, hr1⟩).imp fun y hy => up_ext hy.1 hdue.1 fun v => (hy.2 v).trans (hdue.2 v).symm) (ea_c x2 mono_aN (es_var x2 rfl hv4) (ea_n x2))) rfl))) (fun hb => by cases hb) (fun _ H7 e7 => ?_)
  replace s1 := s1.goH e7
  clear x2
  have x2 := s1.bh
  refine q_when (et_not (et_sB (es_call (F := eB) (A := ar2 (eL eI) (eL eI)) (Post := fun _ y => y = true) (Pre := fun i => i.1 = i.2) (oth, oth) x2 (ea_c x2 (mono_aC mono_aN) ((es_call (m, rs, root) x2 (ea_c x2 (mono_aC (mono_aC mono_aN)) (es_varI x2 rfl) (ea_c x2 (mono_aC mono_aN) (es_var x2 rfl hv3) (ea_c x2 mono_aN (es_varI x2 rfl) (ea_n x2)))) ⟨hnet, hr0, hr1⟩).imp fun y hy => up_ext hy.1 hcut.1 fun v => (hy.2 v).trans (hcut.2 v).symm) (ea_c x2 mono_aN (es_var x2 rfl hv5) (ea_n x2))) rfl))) (fun hb => by cases hb) (fun _ H8 e8 => ?_)
  replace s1 := s1.goH e8
  clear x2
  have x2 := s1.bh
  refine q_setS (em_lcL (E := eR) (F := eR) (p := fun r => decide (r.2.1 ∈ oth) && !decide (r.1 ∈ oth)) (Tr := fun r y => y = r) x2 (es_var x2 rfl hv2) (by omega) (fun v => rfl) (fun r v B6 H9 s6 _ hr => ?_) (fun r v B6 H9 s6 _ hr _ => es_var s6.bh rfl hr)).s fun v6 co B6 H9 s6 hco hv6 => ?_
  · exact et_and (et_sT (es_inL s6.bh (es_31 s6.bh (es_var s6.bh rfl hr)) (es_var s6.bh rfl (Enc.up _ s6.eb hv5)))) fun _ => et_sT (es_ninL s6.bh (es_30 s6.bh (es_var s6.bh rfl hr)) (es_var s6.bh rfl (Enc.up _ s6.eb hv5)))
  have hco0 : co = [] := by
    have h3 := pair_fun (f := fun r => r) hco
    rw [List.map_id'] at h3
    rw [h3, List.filter_eq_nil_iff]
    intro r hr h4
    simp only [Bool.and_eq_true, decide_eq_true_eq, Bool.not_eq_true', decide_eq_false_iff_not] at h4
    obtain ⟨h5, h6⟩ := h4
    have h7 := (hcut.2 _).mp h5
    refine h7.2.2 (.step ?_ (mem_ends.mpr ⟨r, hr, rfl, rfl⟩))
    obtain ⟨k1, k2, _⟩ := hok r hr
    exact Classical.byContradiction fun z => h6 ((hcut.2 _).mpr ⟨k1, k2, z⟩)
  subst hco0
  replace s1 := s1.trans s6
  replace hv2 := Enc.up _ s6.eb hv2
  replace hv3 := Enc.up _ s6.eb hv3
  clear x2
  have x2 := s1.bh
  exact c_ret s1 (es_andV x2 (es_eqSame (deL deR) (by decide) x2 (es_var x2 rfl hv3) (es_var x2 rfl hv2)) fun _ => es_eqSame (deL deR) (by decide) x2 (es_var x2 rfl hv6) (em_nil (E := eR) x2).s) fun w y B3 H3 s hy hR => q w y B3 H3 s hy hR
end
theorem all_mk {l : PySem.W.OpenLaw} {w : World} {K : PySem.W.Frag} {h : Heap} {mg : Str → Option Value} {fa f0 f1 f2 f3 f4 f5 f6 f7 f8 f9 f10 f11 f12 f13 f14 f15 f16 : Addr} (X : K.In h) (G : h.Ns mainGlobals mg) (hfa : mg "law" = some (.ref fa))
    {od0 an0 od1 an1 od2 an2 od3 an3 od4 an4 od5 an5 od6 an6 od7 an7 od8 an8 od9 an9 od10 an10 od11 an11 od12 an12 od13 an13 od14 an14 od15 an15 od16 an16 : Option Addr} {sl0 sl1 sl2 sl3 sl4 sl5 sl6 sl7 sl8 sl9 sl10 sl11 sl12 sl13 sl14 sl15 sl16 : Array (Option Value)} {oc0 kV0 dc0 pm0 cd0 ct0 oc1 kV1 dc1 pm1 cd1 ct1 oc2 kV2 dc2 pm2 cd2 ct2 oc3 kV3 dc3 pm3 cd3 ct3 oc4 kV4 dc4 pm4 cd4 ct4 oc5 kV5 dc5 pm5 cd5 ct5 oc6 kV6 dc6 pm6 cd6 ct6 oc7 kV7 dc7 pm7 cd7 ct7 oc8 kV8 dc8 pm8 cd8 ct8 oc9 kV9 dc9 pm9 cd9 ct9 oc10 kV10 dc10 pm10 cd10 ct10 oc11 kV11 dc11 pm11 cd11 ct11 oc12 kV12 dc12 pm12 cd12 ct12 oc13 kV13 dc13 pm13 cd13 ct13 oc14 kV14 dc14 pm14 cd14 ct14 oc15 kV15 dc15 pm15 cd15 ct15 oc16 kV16 dc16 pm16 cd16 ct16 : Value}
    (a0 : PySem.W.nsIn K mainGlobals "_law_cell_at" = some (some (.ref f0))) (l0 : K.lookup f0 = some ⟨oc0, od0, .func (PySem.W.fnOf "_law_cell_at" "_law_cell_at" (defArgs s__law_cell_at) (defBody s__law_cell_at) (defScope s__law_cell_at) .none kV0 dc0 pm0 an0 cd0 ct0), sl0⟩) (c0 : PySem.W.codeIn K cd0 "_law_cell_at" = true) (k0 : PySem.W.keepIn K (.ref f0) = true)
    (a1 : PySem.W.nsIn K mainGlobals "_law_mixed" = some (some (.ref f1))) (l1 : K.lookup f1 = some ⟨oc1, od1, .func (PySem.W.fnOf "_law_mixed" "_law_mixed" (defArgs s__law_mixed) (defBody s__law_mixed) (defScope s__law_mixed) .none kV1 dc1 pm1 an1 cd1 ct1), sl1⟩) (c1 : PySem.W.codeIn K cd1 "_law_mixed" = true) (k1 : PySem.W.keepIn K (.ref f1) = true)
    (a2 : PySem.W.nsIn K mainGlobals "_law_cost" = some (some (.ref f2))) (l2 : K.lookup f2 = some ⟨oc2, od2, .func (PySem.W.fnOf "_law_cost" "_law_cost" (defArgs s__law_cost) (defBody s__law_cost) (defScope s__law_cost) .none kV2 dc2 pm2 an2 cd2 ct2), sl2⟩) (c2 : PySem.W.codeIn K cd2 "_law_cost" = true) (k2 : PySem.W.keepIn K (.ref f2) = true)
    (a3 : PySem.W.nsIn K mainGlobals "_law_road" = some (some (.ref f3))) (l3 : K.lookup f3 = some ⟨oc3, od3, .func (PySem.W.fnOf "_law_road" "_law_road" (defArgs s__law_road) (defBody s__law_road) (defScope s__law_road) .none kV3 dc3 pm3 an3 cd3 ct3), sl3⟩) (c3 : PySem.W.codeIn K cd3 "_law_road" = true) (k3 : PySem.W.keepIn K (.ref f3) = true)
    (a4 : PySem.W.nsIn K mainGlobals "is_whole" = some (some (.ref f4))) (l4 : K.lookup f4 = some ⟨oc4, od4, .func (PySem.W.fnOf "is_whole" "is_whole" (defArgs s_is_whole) (defBody s_is_whole) (defScope s_is_whole) .none kV4 dc4 pm4 an4 cd4 ct4), sl4⟩) (c4 : PySem.W.codeIn K cd4 "is_whole" = true) (k4 : PySem.W.keepIn K (.ref f4) = true)
    (a5 : PySem.W.nsIn K mainGlobals "is_place" = some (some (.ref f5))) (l5 : K.lookup f5 = some ⟨oc5, od5, .func (PySem.W.fnOf "is_place" "is_place" (defArgs s_is_place) (defBody s_is_place) (defScope s_is_place) .none kV5 dc5 pm5 an5 cd5 ct5), sl5⟩) (c5 : PySem.W.codeIn K cd5 "is_place" = true) (k5 : PySem.W.keepIn K (.ref f5) = true)
    (a6 : PySem.W.nsIn K mainGlobals "is_road" = some (some (.ref f6))) (l6 : K.lookup f6 = some ⟨oc6, od6, .func (PySem.W.fnOf "is_road" "is_road" (defArgs s_is_road) (defBody s_is_road) (defScope s_is_road) .none kV6 dc6 pm6 an6 cd6 ct6), sl6⟩) (c6 : PySem.W.codeIn K cd6 "is_road" = true) (k6 : PySem.W.keepIn K (.ref f6) = true)
    (a7 : PySem.W.nsIn K mainGlobals "checked" = some (some (.ref f7))) (l7 : K.lookup f7 = some ⟨oc7, od7, .func (PySem.W.fnOf "checked" "checked" (defArgs s_checked) (defBody s_checked) (defScope s_checked) .none kV7 dc7 pm7 an7 cd7 ct7), sl7⟩) (c7 : PySem.W.codeIn K cd7 "checked" = true) (k7 : PySem.W.keepIn K (.ref f7) = true)
    (a8 : PySem.W.nsIn K mainGlobals "need_place" = some (some (.ref f8))) (l8 : K.lookup f8 = some ⟨oc8, od8, .func (PySem.W.fnOf "need_place" "need_place" (defArgs s_need_place) (defBody s_need_place) (defScope s_need_place) .none kV8 dc8 pm8 an8 cd8 ct8), sl8⟩) (c8 : PySem.W.codeIn K cd8 "need_place" = true) (k8 : PySem.W.keepIn K (.ref f8) = true)
    (a9 : PySem.W.nsIn K mainGlobals "led" = some (some (.ref f9))) (l9 : K.lookup f9 = some ⟨oc9, od9, .func (PySem.W.fnOf "led" "led" (defArgs s_led) (defBody s_led) (defScope s_led) .none kV9 dc9 pm9 an9 cd9 ct9), sl9⟩) (c9 : PySem.W.codeIn K cd9 "led" = true) (k9 : PySem.W.keepIn K (.ref f9) = true)
    (a10 : PySem.W.nsIn K mainGlobals "reached" = some (some (.ref f10))) (l10 : K.lookup f10 = some ⟨oc10, od10, .func (PySem.W.fnOf "reached" "reached" (defArgs s_reached) (defBody s_reached) (defScope s_reached) .none kV10 dc10 pm10 an10 cd10 ct10), sl10⟩) (c10 : PySem.W.codeIn K cd10 "reached" = true) (k10 : PySem.W.keepIn K (.ref f10) = true)
    (a11 : PySem.W.nsIn K mainGlobals "cut_off" = some (some (.ref f11))) (l11 : K.lookup f11 = some ⟨oc11, od11, .func (PySem.W.fnOf "cut_off" "cut_off" (defArgs s_cut_off) (defBody s_cut_off) (defScope s_cut_off) .none kV11 dc11 pm11 an11 cd11 ct11), sl11⟩) (c11 : PySem.W.codeIn K cd11 "cut_off" = true) (k11 : PySem.W.keepIn K (.ref f11) = true)
    (a12 : PySem.W.nsIn K mainGlobals "_law_many" = some (some (.ref f12))) (l12 : K.lookup f12 = some ⟨oc12, od12, .func (PySem.W.fnOf "_law_many" "_law_many" (defArgs s__law_many) (defBody s__law_many) (defScope s__law_many) .none kV12 dc12 pm12 an12 cd12 ct12), sl12⟩) (c12 : PySem.W.codeIn K cd12 "_law_many" = true) (k12 : PySem.W.keepIn K (.ref f12) = true)
    (a13 : PySem.W.nsIn K mainGlobals "_law_met" = some (some (.ref f13))) (l13 : K.lookup f13 = some ⟨oc13, od13, .func (PySem.W.fnOf "_law_met" "_law_met" (defArgs s__law_met) (defBody s__law_met) (defScope s__law_met) .none kV13 dc13 pm13 an13 cd13 ct13), sl13⟩) (c13 : PySem.W.codeIn K cd13 "_law_met" = true) (k13 : PySem.W.keepIn K (.ref f13) = true)
    (a14 : PySem.W.nsIn K mainGlobals "_law_numbers" = some (some (.ref f14))) (l14 : K.lookup f14 = some ⟨oc14, od14, .func (PySem.W.fnOf "_law_numbers" "_law_numbers" (defArgs s__law_numbers) (defBody s__law_numbers) (defScope s__law_numbers) .none kV14 dc14 pm14 an14 cd14 ct14), sl14⟩) (c14 : PySem.W.codeIn K cd14 "_law_numbers" = true) (k14 : PySem.W.keepIn K (.ref f14) = true)
    (a15 : PySem.W.nsIn K mainGlobals "_law_roads" = some (some (.ref f15))) (l15 : K.lookup f15 = some ⟨oc15, od15, .func (PySem.W.fnOf "_law_roads" "_law_roads" (defArgs s__law_roads) (defBody s__law_roads) (defScope s__law_roads) .none kV15 dc15 pm15 an15 cd15 ct15), sl15⟩) (c15 : PySem.W.codeIn K cd15 "_law_roads" = true) (k15 : PySem.W.keepIn K (.ref f15) = true)
    (a16 : PySem.W.nsIn K mainGlobals "law" = some (some (.ref f16))) (l16 : K.lookup f16 = some ⟨oc16, od16, .func (PySem.W.fnOf "law" "law" (defArgs s_law) (defBody s_law) (defScope s_law) .none kV16 dc16 pm16 an16 cd16 ct16), sl16⟩) (c16 : PySem.W.codeIn K cd16 "law" = true) (k16 : PySem.W.keepIn K (.ref f16) = true)
    (z_bool : PySem.W.nsIn K mainGlobals "bool" = some none)
    (z_int : PySem.W.nsIn K mainGlobals "int" = some none)
    (z_isinstance : PySem.W.nsIn K mainGlobals "isinstance" = some none)
    (z_len : PySem.W.nsIn K mainGlobals "len" = some none)
    (z_list : PySem.W.nsIn K mainGlobals "list" = some none)
    (z_range : PySem.W.nsIn K mainGlobals "range" = some none)
    (z_sorted : PySem.W.nsIn K mainGlobals "sorted" = some none)
    (z_tuple : PySem.W.nsIn K mainGlobals "tuple" = some none)
    {t_MOST_PLACES : Tok} (y_MOST_PLACES : PySem.W.nsIn K mainGlobals "MOST_PLACES" = some (some (.int 12 t_MOST_PLACES)))
    {t_MOST_ROADS : Tok} (y_MOST_ROADS : PySem.W.nsIn K mainGlobals "MOST_ROADS" = some (some (.int 60 t_MOST_ROADS)))
    {t_DEAREST : Tok} (y_DEAREST : PySem.W.nsIn K mainGlobals "DEAREST" = some (some (.int 10000000000000000000000000000000000000000 t_DEAREST)))
    : ∃ fd : FuncData, (∀ (s : Shared) (v : Value), BindsTo s fd ⟨[v], []⟩ [("_law_script", v)]) ∧ ∀ base : Heap, K.In base → base.Ns mainGlobals mg → FnOk l.prog w K mg base CX0 7 fa fd ["_law_script"] (spLaw K) := by
  have e := hfa.symm.trans (PySem.W.mg_of X G a16)
  cases e
  have T : Txt K mg := ⟨PySem.W.mg_none_of X G z_bool, PySem.W.mg_none_of X G z_int, PySem.W.mg_none_of X G z_isinstance, PySem.W.mg_none_of X G z_len, PySem.W.mg_none_of X G z_list, PySem.W.mg_none_of X G z_range, PySem.W.mg_none_of X G z_sorted, PySem.W.mg_none_of X G z_tuple, ⟨_, PySem.W.mg_of X G y_MOST_PLACES⟩, ⟨_, PySem.W.mg_of X G y_MOST_ROADS⟩, ⟨_, PySem.W.mg_of X G y_DEAREST⟩⟩
  refine ⟨PySem.W.fnOf "law" "law" (defArgs s_law) (defBody s_law) (defScope s_law) .none kV16 dc16 pm16 an16 cd16 ct16, fun s v => .of_eq rfl, fun base _ _ => ?_⟩
  have G__law_cell_at := d__law_cell_at (P := l.prog) (w := w) (base := base) ⟨f0, _, fun_mk (st := s__law_cell_at) l0 c0 k0, PySem.W.mg_of X G a0⟩ T 
  have G__law_mixed := d__law_mixed (P := l.prog) (w := w) (base := base) ⟨f1, _, fun_mk (st := s__law_mixed) l1 c1 k1, PySem.W.mg_of X G a1⟩ T 
  have G__law_cost := d__law_cost (P := l.prog) (w := w) (base := base) ⟨f2, _, fun_mk (st := s__law_cost) l2 c2 k2, PySem.W.mg_of X G a2⟩ T 
  have G__law_road := d__law_road (P := l.prog) (w := w) (base := base) ⟨f3, _, fun_mk (st := s__law_road) l3 c3 k3, PySem.W.mg_of X G a3⟩ T G__law_cost
  have G_is_whole := d_is_whole (P := l.prog) (w := w) (base := base) ⟨f4, _, fun_mk (st := s_is_whole) l4 c4 k4, PySem.W.mg_of X G a4⟩ T 
  have G_is_place := d_is_place (P := l.prog) (w := w) (base := base) ⟨f5, _, fun_mk (st := s_is_place) l5 c5 k5, PySem.W.mg_of X G a5⟩ T G_is_whole
  have G_is_road := d_is_road (P := l.prog) (w := w) (base := base) ⟨f6, _, fun_mk (st := s_is_road) l6 c6 k6, PySem.W.mg_of X G a6⟩ T G_is_whole G_is_place
  have G_checked := d_checked (P := l.prog) (w := w) (base := base) ⟨f7, _, fun_mk (st := s_checked) l7 c7 k7, PySem.W.mg_of X G a7⟩ T G_is_whole G_is_road
  have G_need_place := d_need_place (P := l.prog) (w := w) (base := base) ⟨f8, _, fun_mk (st := s_need_place) l8 c8 k8, PySem.W.mg_of X G a8⟩ T G_is_place
  have G_led := d_led (P := l.prog) (w := w) (base := base) ⟨f9, _, fun_mk (st := s_led) l9 c9 k9, PySem.W.mg_of X G a9⟩ T 
  have G_reached := d_reached (P := l.prog) (w := w) (base := base) ⟨f10, _, fun_mk (st := s_reached) l10 c10 k10, PySem.W.mg_of X G a10⟩ T G_checked G_need_place G_led
  have G_cut_off := d_cut_off (P := l.prog) (w := w) (base := base) ⟨f11, _, fun_mk (st := s_cut_off) l11 c11 k11, PySem.W.mg_of X G a11⟩ T G_reached
  have G__law_many := d__law_many (P := l.prog) (w := w) (base := base) ⟨f12, _, fun_mk (st := s__law_many) l12 c12 k12, PySem.W.mg_of X G a12⟩ T 
  have G__law_met := d__law_met (P := l.prog) (w := w) (base := base) ⟨f13, _, fun_mk (st := s__law_met) l13 c13 k13, PySem.W.mg_of X G a13⟩ T 
  have G__law_numbers := d__law_numbers (P := l.prog) (w := w) (base := base) ⟨f14, _, fun_mk (st := s__law_numbers) l14 c14 k14, PySem.W.mg_of X G a14⟩ T 
  have G__law_roads := d__law_roads (P := l.prog) (w := w) (base := base) ⟨f15, _, fun_mk (st := s__law_roads) l15 c15 k15, PySem.W.mg_of X G a15⟩ T G__law_cell_at G__law_mixed G__law_cost G__law_road
  exact d_law (P := l.prog) (w := w) (base := base) (fun_mk (st := s_law) l16 c16 k16) T G__law_cell_at G__law_many G__law_roads G__law_met G__law_numbers G_reached G_cut_off
theorem walk {l : PySem.W.OpenLaw} {q : Program} {loose : List Str} {XP : (Str → Option Value) → Heap → Prop} {YP : World → Heap → Prop} {d : DefRec} {K : Params → PySem.W.Frag} (hn : l.most = some 63) (hdf : d.params.defaults = [])
    (hY : ∀ (w : World) (h : Heap), YP w h → (K w.params).In h)
    (F : ∀ (w : World) (mg : Str → Option Value) (fa : Addr) (h : Heap), (K w.params).In h → h.Ns mainGlobals mg → mg d.name = some (.ref fa) →
      ∃ fd : FuncData, (∀ (s : Shared) (u : Value), BindsTo s fd ⟨[u], []⟩ [("_law_script", u)]) ∧ ∀ base : Heap, (K w.params).In base → base.Ns mainGlobals mg → FnOk l.prog w (K w.params) mg base CX0 7 fa fd ["_law_script"] (spLaw (K w.params))) :
    PySem.W.WalkO q loose XP YP l.row.toRowW d [] (fun f vs => PySem.call f vs) :=
  L2.walk_ofB (n := 63) (k := 7) (x := "_law_script") (CX := fun _ => CX0) (sp := fun w => spLaw (K w.params)) hn (by decide) hdf ⟨rfl, by decide, by decide⟩ hY F (fun _ H a ns hl hb _ hS =>
    ⟨ns, H, Ex.refl H, ⟨_, ns, [], rfl, rfl, ⟨a, rfl, hS⟩, rfl⟩, ⟨hl, fun z hz => Bd.bits (hb z hz)⟩, fun w y B2 H2 _ hy hR => by cases hy; exact hR⟩) fun _ _ _ _ _ z => z
end RR
open PySem PySem.W PyProof.Rows in
set_option maxRecDepth 100000 in
set_option maxHeartbeats 0 in
theorem PySem.Challenge.cw_rootroads_k02_come_to_and_cut_off_holds : PySem.Challenge.rw_rootroads_k02_come_to_and_cut_off.Holds := by
  w_on; o_law; k_head; (case hw => w_witness2)
  k_fill
  refine RR.walk (l := PySem.Challenge.rw_rootroads_k02_come_to_and_cut_off) rfl rfl (fun w h Y => PySem.W.kIn_of Y) ?F
  case F =>
    intro w mg fa h KX G hmg
    refine' RR.all_mk KX G hmg ?a0 ?l0 ?c0 ?k0 ?a1 ?l1 ?c1 ?k1 ?a2 ?l2 ?c2 ?k2 ?a3 ?l3 ?c3 ?k3 ?a4 ?l4 ?c4 ?k4 ?a5 ?l5 ?c5 ?k5 ?a6 ?l6 ?c6 ?k6 ?a7 ?l7 ?c7 ?k7 ?a8 ?l8 ?c8 ?k8 ?a9 ?l9 ?c9 ?k9 ?a10 ?l10 ?c10 ?k10 ?a11 ?l11 ?c11 ?k11 ?a12 ?l12 ?c12 ?k12 ?a13 ?l13 ?c13 ?k13 ?a14 ?l14 ?c14 ?k14 ?a15 ?l15 ?c15 ?k15 ?a16 ?l16 ?c16 ?k16 ?z_bool ?z_int ?z_isinstance ?z_len ?z_list ?z_range ?z_sorted ?z_tuple ?y_MOST_PLACES ?y_MOST_ROADS ?y_DEAREST
    (case a0 => k_is)
    (case l0 => k_is)
    (case c0 => k_is)
    (case k0 => k_is)
    (case a1 => k_is)
    (case l1 => k_is)
    (case c1 => k_is)
    (case k1 => k_is)
    (case a2 => k_is)
    (case l2 => k_is)
    (case c2 => k_is)
    (case k2 => k_is)
    (case a3 => k_is)
    (case l3 => k_is)
    (case c3 => k_is)
    (case k3 => k_is)
    (case a4 => k_is)
    (case l4 => k_is)
    (case c4 => k_is)
    (case k4 => k_is)
    (case a5 => k_is)
    (case l5 => k_is)
    (case c5 => k_is)
    (case k5 => k_is)
    (case a6 => k_is)
    (case l6 => k_is)
    (case c6 => k_is)
    (case k6 => k_is)
    (case a7 => k_is)
    (case l7 => k_is)
    (case c7 => k_is)
    (case k7 => k_is)
    (case a8 => k_is)
    (case l8 => k_is)
    (case c8 => k_is)
    (case k8 => k_is)
    (case a9 => k_is)
    (case l9 => k_is)
    (case c9 => k_is)
    (case k9 => k_is)
    (case a10 => k_is)
    (case l10 => k_is)
    (case c10 => k_is)
    (case k10 => k_is)
    (case a11 => k_is)
    (case l11 => k_is)
    (case c11 => k_is)
    (case k11 => k_is)
    (case a12 => k_is)
    (case l12 => k_is)
    (case c12 => k_is)
    (case k12 => k_is)
    (case a13 => k_is)
    (case l13 => k_is)
    (case c13 => k_is)
    (case k13 => k_is)
    (case a14 => k_is)
    (case l14 => k_is)
    (case c14 => k_is)
    (case k14 => k_is)
    (case a15 => k_is)
    (case l15 => k_is)
    (case c15 => k_is)
    (case k15 => k_is)
    (case a16 => k_is)
    (case l16 => k_is)
    (case c16 => k_is)
    (case k16 => k_is)
    (case z_bool => k_is)
    (case z_int => k_is)
    (case z_isinstance => k_is)
    (case z_len => k_is)
    (case z_list => k_is)
    (case z_range => k_is)
    (case z_sorted => k_is)
    (case z_tuple => k_is)
    (case y_MOST_PLACES => k_is)
    (case y_MOST_ROADS => k_is)
    (case y_DEAREST => k_is)
#print axioms PySem.Challenge.cw_rootroads_k02_come_to_and_cut_off_holds
