import PyProof.Rows.All
import Wide.All
import OpenK.AllK
import Wide.FinOn
import HandS.ForMost
import HandS.Evl
import HandS.IsInst
import HandS.Wide
import HandS.EndBits
import HandS.Deep
import HandS.SortInts
import HandS.SortKw
import PySem.Challenge.RW_rootroads_k01_roads_into_a_set
set_option Elab.async false
set_option linter.all false
set_option maxRecDepth 100000
set_option maxHeartbeats 8000000
namespace RR
open PySem L2 Evl

/-! ### 1. Two heaps: B, what is known for good; H, what stands. -/
structure Stp (B H B' H' : Hp) : Prop where
  eb : Ex B B'
  eh : Ex H H'
  bh : Ex B' H'
  nw : ∀ b o, B' b = some o → B b = some o ∨ H b = none
theorem Stp.refl {B H : Hp} (x : Ex B H) : Stp B H B H := ⟨Ex.refl _, Ex.refl _, x, fun _ _ h => .inl h⟩
theorem Stp.trans {B H B1 H1 B2 H2 : Hp} (a : Stp B H B1 H1) (b : Stp B1 H1 B2 H2) : Stp B H B2 H2 :=
  ⟨a.eb.trans b.eb, a.eh.trans b.eh, b.bh, fun c o h => by
    rcases b.nw c o h with q | q
    · exact a.nw c o q
    · exact .inr (fresh_back a.eh q)⟩
theorem Stp.go {B H H1 : Hp} (x : Ex B H) (e : Ex H H1) : Stp B H B H1 := ⟨Ex.refl _, e, x.trans e, fun _ _ h => .inl h⟩
theorem Stp.goH {B0 H0 B H H1 : Hp} (s : Stp B0 H0 B H) (e : Ex H H1) : Stp B0 H0 B H1 := s.trans (Stp.go s.bh e)
theorem Stp.new {B H : Hp} (x : Ex B H) {p : Addr} {o : HO} (hp : H p = none) : Stp B H (upd B p o) (upd H p o) :=
  ⟨Ex.new (fresh_back x hp), Ex.new hp, fun a u h => by
    by_cases e : a = p
    · subst e
      rw [upd_same] at h ⊢
      exact h
    · rw [upd_ne e] at h ⊢
      exact x a u h, fun b u h => by
    by_cases e : b = p
    · subst e
      exact .inr hp
    · rw [upd_ne e] at h
      exact .inl h⟩
/-- the union of what is known -/
def jn (A B : Hp) : Hp := fun a => match A a with
  | some o => some o
  | none => B a
theorem jn_l {A B : Hp} : Ex A (jn A B) := fun a o h => by
  unfold jn
  rw [h]
theorem jn_h {A B H : Hp} (x : Ex A H) (y : Ex B H) : Ex (jn A B) H := fun a o h => by
  unfold jn at h
  cases e : A a with
  | some u =>
    rw [e] at h
    cases h
    exact x a _ e
  | none =>
    rw [e] at h
    exact y a _ h
theorem jn_r {A B H : Hp} (x : Ex A H) (y : Ex B H) : Ex B (jn A B) := fun a o h => by
  unfold jn
  cases e : A a with
  | some u =>
    have h1 := x a _ e
    rw [y a _ h] at h1
    exact h1.symm
  | none => exact h
/-- a step shown from less is a step from more -/
theorem Stp.join {B H B1 H1 B2 H2 H3 : Hp} (s : Stp B H B1 H1) (e : Ex H1 H2) (t : Stp B H2 B2 H3) : Stp B1 H2 (jn B1 B2) H3 :=
  ⟨jn_l, t.eh, jn_h ((s.bh.trans e).trans t.eh) t.bh, fun b o h => by
    unfold jn at h
    cases q : B1 b with
    | some u =>
      rw [q] at h
      cases h
      exact .inl rfl
    | none =>
      rw [q] at h
      rcases t.nw b o h with z | z
      · rw [s.eb b o z] at q
        cases q
      · exact .inr z⟩

/-- a thing of one's own, that changes: made behind H0, in no B -/
structure Cell (H0 B H : Hp) (p : Addr) (o : HO) : Prop where
  n : H0 p = none
  b : B p = none
  h : H p = some o
section
variable {B0 H0 B H B1 H1 : Hp} {p q : Addr} {o u v : HO}
theorem Cell.nb (c : Cell H0 B H p o) (s : Stp B H B1 H1) : B1 p = none := by
  cases e : B1 p with
  | none => rfl
  | some z =>
    rcases s.nw p z e with r | r
    · rw [c.b] at r
      cases r
    · rw [c.h] at r
      cases r
theorem Cell.up (c : Cell H0 B H p o) (s : Stp B H B1 H1) : Cell H0 B1 H1 p o := ⟨c.n, c.nb s, s.eh _ _ c.h⟩
theorem Cell.go (c : Cell H0 B H p o) (e : Ex H H1) : Cell H0 B H1 p o := ⟨c.n, c.b, e _ _ c.h⟩
theorem Cell.mut (c : Cell H0 B H p o) (s : Stp B0 H0 B H) : Stp B0 H0 B (upd H p u) :=
  ⟨s.eb, Ex.mut s.eh c.n, Ex.mut s.bh c.b, s.nw⟩
theorem Cell.same (c : Cell H0 B H p o) : Cell H0 B (upd H p u) p u := ⟨c.n, c.b, upd_same⟩
theorem Cell.other (c : Cell H0 B H p o) (ne : p ≠ q) : Cell H0 B (upd H q u) p o := ⟨c.n, c.b, by rw [upd_ne ne]; exact c.h⟩
theorem Cell.ne (c : Cell H0 B H p o) (d : Cell H0 B H q u) (h : o ≠ u) : p ≠ q := ne_of c.h d.h h
theorem Cell.neN (c : Cell H0 B H p o) (d : H q = none) : p ≠ q := ne_of_none c.h d
end

/-! ### 2. What a value stands for -/
structure Enc (α : Type) where
  R : Hp → V → α → Prop
  up : ∀ {H H' : Hp} {v : V} {x : α}, Ex H H' → R H v x → R H' v x
section
variable {α β γ : Type}
theorem pmap {R S : V → α → Prop} (h : ∀ v x, R v x → S v x) : ∀ {vs : List V} {xs : List α}, Paired R vs xs → Paired S vs xs
  | _, _, .nil => .nil
  | _, _, .cons r t => .cons (h _ _ r) (pmap h t)
theorem Enc.ups (E : Enc α) {H H' : Hp} (e : Ex H H') {vs : List V} {xs : List α} (h : Paired (E.R H) vs xs) : Paired (E.R H') vs xs := pmap (fun _ _ q => E.up e q) h
theorem pget {R : V → α → Prop} : ∀ {vs : List V} {xs : List α} {i : Nat} {x : α}, Paired R vs xs → xs[i]? = some x → ∃ v, vs[i]? = some v ∧ R v x
  | _, _, i, x, .nil, h => by simp at h
  | _, _, 0, x, .cons r t, h => by
    simp only [List.getElem?_cons_zero, Option.some.injEq] at h
    subst h
    exact ⟨_, rfl, r⟩
  | _, _, i + 1, x, .cons r t, h => by
    simp only [List.getElem?_cons_succ] at h ⊢
    exact pget t h
theorem pgetV {R : V → α → Prop} {vs : List V} {xs : List α} {i : Nat} {v : V} (p : Paired R vs xs) (h : vs[i]? = some v) : ∃ x, xs[i]? = some x ∧ R v x := by
  induction p generalizing i with
  | nil => simp at h
  | cons r t ih =>
    cases i with
    | zero =>
      simp only [List.getElem?_cons_zero, Option.some.injEq] at h
      subst h
      exact ⟨_, rfl, r⟩
    | succ i =>
      simp only [List.getElem?_cons_succ] at h ⊢
      exact ih h
theorem papp {R : V → α → Prop} : ∀ {vs ws : List V} {xs ys : List α}, Paired R vs xs → Paired R ws ys → Paired R (vs ++ ws) (xs ++ ys)
  | _, _, _, _, .nil, h => h
  | _, _, _, _, .cons r t, h => .cons r (papp t h)
theorem pdrop {R : V → α → Prop} : ∀ (n : Nat) {vs : List V} {xs : List α}, Paired R vs xs → Paired R (vs.drop n) (xs.drop n)
  | 0, _, _, h => h
  | n + 1, _, _, .nil => .nil
  | n + 1, _, _, .cons r t => pdrop n t
theorem ptake {R : V → α → Prop} : ∀ (n : Nat) {vs : List V} {xs : List α}, Paired R vs xs → Paired R (vs.take n) (xs.take n)
  | 0, _, _, h => .nil
  | n + 1, _, _, .nil => .nil
  | n + 1, _, _, .cons r t => .cons r (ptake n t)
theorem prev {R : V → α → Prop} : ∀ {vs : List V} {xs : List α}, Paired R vs xs → Paired R vs.reverse xs.reverse
  | _, _, .nil => .nil
  | _, _, .cons r t => by
    rw [List.reverse_cons, List.reverse_cons]
    exact papp (prev t) (.cons r .nil)
theorem pset {R : V → α → Prop} {v : V} {x : α} (r : R v x) : ∀ (i : Nat) {vs : List V} {xs : List α}, Paired R vs xs → Paired R (vs.set i v) (xs.set i x)
  | _, _, _, .nil => .nil
  | 0, _, _, .cons _ t => .cons r t
  | i + 1, _, _, .cons q t => .cons q (pset r i t)

def eI : Enc Int := ⟨fun _ v n => v = .int n, fun _ h => h⟩
def eB : Enc Bool := ⟨fun _ v b => v = .bl b, fun _ h => h⟩
def oV : Option Int → V
  | none => .non
  | some n => .int n
def eO : Enc (Option Int) := ⟨fun _ v o => v = oV o, fun _ h => h⟩
/-- any value, by itself -/
def eV : Enc V := ⟨fun _ v w => v = w, fun _ h => h⟩
def eL (E : Enc α) : Enc (List α) := ⟨fun H v xs => ∃ a vs, v = .ref a ∧ H a = some (.lst vs) ∧ Paired (E.R H) vs xs, fun e ⟨a, vs, h1, h2, h3⟩ => ⟨a, vs, h1, e _ _ h2, E.ups e h3⟩⟩
def eT (E : Enc α) : Enc (List α) := ⟨fun H v xs => ∃ a vs, v = .ref a ∧ H a = some (.tup vs) ∧ Paired (E.R H) vs xs, fun e ⟨a, vs, h1, h2, h3⟩ => ⟨a, vs, h1, e _ _ h2, E.ups e h3⟩⟩
def e2 (E : Enc α) (F : Enc β) : Enc (α × β) := ⟨fun H v x => ∃ a u w, v = .ref a ∧ H a = some (.tup [u, w]) ∧ E.R H u x.1 ∧ F.R H w x.2, fun e ⟨a, u, w, h1, h2, h3, h4⟩ => ⟨a, u, w, h1, e _ _ h2, E.up e h3, F.up e h4⟩⟩
def e3 (E : Enc α) (F : Enc β) (G : Enc γ) : Enc (α × β × γ) := ⟨fun H v x => ∃ a u w z, v = .ref a ∧ H a = some (.tup [u, w, z]) ∧ E.R H u x.1 ∧ F.R H w x.2.1 ∧ G.R H z x.2.2,
  fun e ⟨a, u, w, z, h1, h2, h3, h4, h5⟩ => ⟨a, u, w, z, h1, e _ _ h2, E.up e h3, F.up e h4, G.up e h5⟩⟩
/-- a tuple that begins with two ints -/
def eH : Enc (Int × Int) := ⟨fun H v x => ∃ a r, v = .ref a ∧ H a = some (.tup (.int x.1 :: .int x.2 :: r)), fun e ⟨a, r, h1, h2⟩ => ⟨a, r, h1, e _ _ h2⟩⟩
/-- a dict by its int keys -/
def eD : Enc (List Int) := ⟨fun H v ks => ∃ a kvs, v = .ref a ∧ H a = some (.dK kvs) ∧ kvs.map (·.1) = ks.map Sum.inl, fun e ⟨a, kvs, h1, h2, h3⟩ => ⟨a, kvs, h1, e _ _ h2, h3⟩⟩
abbrev Road := Int × Int × Int
abbrev eR : Enc Road := e3 eI eI eI
theorem pI {H : Hp} : ∀ {vs : List V} {ns : List Int}, Paired (eI.R H) vs ns → vs = ns.map V.int
  | _, _, .nil => rfl
  | _, _, .cons r t => by
    rw [pI t, show _ = V.int _ from r]
    rfl
theorem pI' {H : Hp} : ∀ (ns : List Int), Paired (eI.R H) (ns.map V.int) ns
  | [] => .nil
  | _ :: r => .cons rfl (pI' r)
theorem pO {H : Hp} : ∀ {vs : List V} {ns : List (Option Int)}, Paired (eO.R H) vs ns → vs = ns.map oV
  | _, _, .nil => rfl
  | _, _, .cons r t => by
    rw [pO t, show _ = oV _ from r]
    rfl
theorem pO' {H : Hp} : ∀ (ns : List (Option Int)), Paired (eO.R H) (ns.map oV) ns
  | [] => .nil
  | _ :: r => .cons rfl (pO' r)
theorem eLI {H : Hp} {v : V} {ns : List Int} (h : (eL eI).R H v ns) : ∃ a, v = .ref a ∧ H a = some (.lst (ns.map V.int)) := by
  obtain ⟨a, vs, h1, h2, h3⟩ := h
  rw [pI h3] at h2
  exact ⟨a, h1, h2⟩
theorem eTI {H : Hp} {v : V} {ns : List Int} (h : (eT eI).R H v ns) : ∃ a, v = .ref a ∧ H a = some (.tup (ns.map V.int)) := by
  obtain ⟨a, vs, h1, h2, h3⟩ := h
  rw [pI h3] at h2
  exact ⟨a, h1, h2⟩
theorem eR_H {H : Hp} {v : V} {r : Road} (h : eR.R H v r) : eH.R H v (r.1, r.2.1) := by
  obtain ⟨a, u, w, z, h1, h2, h3, h4, h5⟩ := h
  cases h3
  cases h4
  exact ⟨a, [z], h1, h2⟩
theorem eRs_H {H : Hp} {v : V} {rs : List Road} (h : (eL eR).R H v rs) : (eL eH).R H v (rs.map fun r => (r.1, r.2.1)) := by
  obtain ⟨a, vs, h1, h2, h3⟩ := h
  refine ⟨a, vs, h1, h2, ?_⟩
  clear h1 h2
  induction h3 with
  | nil => exact .nil
  | cons r t ih => exact .cons (eR_H r) ih
end

/-! ### 3. What an expression tells: EvS (a value that stands for some x with S x), EvM (a new list of one's own) -/
section
variable {α β γ δ ε : Type} {E : Enc α} {F : Enc β} {G : Enc γ}
def EvS (E : Enc α) (te : TE) (σ : L2.St) (B H : Hp) (S : α → Prop) : Prop := ∀ H1, Ex H H1 → ∀ Q : VK, (∀ v x B2 H2, Stp B H1 B2 H2 → S x → E.R B2 v x → Q v H2) → te σ H1 Q
abbrev EvE (E : Enc α) (te : TE) (σ : L2.St) (B H : Hp) (x : α) : Prop := EvS E te σ B H (fun y => y = x)
/-- a new list, known to none: it may be changed -/
def EvM (E : Enc α) (te : TE) (σ : L2.St) (B H : Hp) (S : List α → Prop) : Prop := ∀ H1, Ex H H1 → ∀ Q : VK, (∀ p vs xs B2 H2, Stp B H1 B2 H2 → H1 p = none → B2 p = none → H2 p = some (.lst vs) → S xs → Paired (E.R B2) vs xs → Q (.ref p) H2) → te σ H1 Q
variable {te ta tb tc : TE} {tt : TT} {σ : L2.St} {B H B1 H1 : Hp} {S : α → Prop} {T : β → Prop} {K : PySem.W.Frag}
theorem EvS.up (h : EvS E te σ B H S) (s : Stp B H B1 H1) : EvS E te σ B1 H1 S := fun H2 e Q k =>
  h H2 (s.eh.trans e) Q fun v x B2 H3 t hS hR => k v x (jn B1 B2) H3 (s.join e t) hS (E.up (jn_r ((s.bh.trans e).trans t.eh) t.bh) hR)
theorem EvM.up {S : List α → Prop} (h : EvM E te σ B H S) (s : Stp B H B1 H1) : EvM E te σ B1 H1 S := fun H2 e Q k =>
  h H2 (s.eh.trans e) Q fun p vs xs B2 H3 t hp bp hl hS hR => k p vs xs (jn B1 B2) H3 (s.join e t) hp (by
    have q : B1 p = none := fresh_back (s.bh.trans e) hp
    unfold jn
    rw [q]
    exact bp) hl hS (E.ups (jn_r ((s.bh.trans e).trans t.eh) t.bh) hR)
theorem EvM.s {S : List α → Prop} (h : EvM E te σ B H S) : EvS (eL E) te σ B H S := fun H2 e Q k =>
  h H2 e Q fun p vs xs B2 H3 t hp bp hl hS hR => k (.ref p) xs (upd B2 p (.lst vs)) H3 ⟨t.eb.trans (Ex.new bp), t.eh, fun a u q => by
    by_cases z : a = p
    · subst z
      rw [upd_same] at q
      cases q
      exact hl
    · rw [upd_ne z] at q
      exact t.bh a u q, fun a u q => by
    by_cases z : a = p
    · subst z
      exact .inr hp
    · rw [upd_ne z] at q
      exact t.nw a u q⟩ hS ⟨p, vs, rfl, upd_same, E.ups (Ex.new bp) hR⟩
theorem EvS.imp {S' : α → Prop} (h : EvS E te σ B H S) (i : ∀ x, S x → S' x) : EvS E te σ B H S' := fun H1 e Q k => h H1 e Q fun v x B2 H2 t hS hR => k v x B2 H2 t (i x hS) hR
theorem EvM.imp {S S' : List α → Prop} (h : EvM E te σ B H S) (i : ∀ x, S x → S' x) : EvM E te σ B H S' := fun H1 e Q k => h H1 e Q fun p vs xs B2 H2 t a b c hS hR => k p vs xs B2 H2 t a b c (i xs hS) hR
theorem EvE.to {x y : α} (h : EvE E te σ B H x) (e : x = y) : EvE E te σ B H y := e ▸ h
theorem EvS.conv {T : α → Prop} {E' : Enc β} {T' : β → Prop} (h : EvS E te σ B H T) (i : ∀ B v x, T x → E.R B v x → ∃ y, T' y ∧ E'.R B v y) : EvS E' te σ B H T' := fun H1 e Q k =>
  h H1 e Q fun v x B2 H2 t hS hR => by
    obtain ⟨y, a, b⟩ := i B2 v x hS hR
    exact k v y B2 H2 t a b
/-- scalars -/
theorem es_ev {v : V} {x : α} (x0 : Ex B H) (h : Ev te σ H v) (r : E.R B v x) : EvE E te σ B H x := fun H1 e Q k => h H1 e Q fun H2 e2 => k v x B H2 (Stp.go (x0.trans e) e2) rfl r
theorem es_evI {n : Int} (x0 : Ex B H) (h : Ev te σ H (.int n)) : EvE eI te σ B H n := es_ev x0 h rfl
theorem es_evB {b : Bool} (x0 : Ex B H) (h : Ev te σ H (.bl b)) : EvE eB te σ B H b := es_ev x0 h rfl
theorem ev_sI {n : Int} (h : EvE eI te σ B H n) : Ev te σ H (.int n) := fun H1 e Q k => h H1 e Q fun v x B2 H2 t hS hR => by
  cases hS
  cases hR
  exact k H2 t.eh
theorem ev_sB {b : Bool} (h : EvE eB te σ B H b) : Ev te σ H (.bl b) := fun H1 e Q k => h H1 e Q fun v x B2 H2 t hS hR => by
  cases hS
  cases hR
  exact k H2 t.eh
theorem ev_sO {o : Option Int} (h : EvE eO te σ B H o) : Ev te σ H (oV o) := fun H1 e Q k => h H1 e Q fun v x B2 H2 t hS hR => by
  cases hS
  cases hR
  exact k H2 t.eh
theorem et_sT {b : Bool} (h : EvE eB te σ B H b) : EvT (tTest te) σ H b := et_test (ev_sB h)
theorem et_sB {b : Bool} (h : EvE eB te σ B H b) : EvT (tB te) σ H b := et_B (ev_sB h)

theorem es_var {i : Nat} {v : V} {x : α} (x0 : Ex B H) (h : σ[i]? = some (some v)) (r : E.R B v x) : EvE E (tVar i) σ B H x := es_ev x0 (ev_var h) r
theorem es_varI {i : Nat} {n : Int} (x0 : Ex B H) (h : σ[i]? = some (some (.int n))) : EvE eI (tVar i) σ B H n := es_ev x0 (ev_var h) rfl
theorem es_int {n : Int} (x0 : Ex B H) : EvE eI (tC (.int n)) σ B H n := es_ev x0 ev_c rfl
theorem es_bl {b : Bool} (x0 : Ex B H) : EvE eB (tC (.bl b)) σ B H b := es_ev x0 ev_c rfl
theorem es_non (x0 : Ex B H) : EvE eO (tC .non) σ B H none := es_ev x0 ev_c rfl

/-- two parts, then an operation on what they stand for -/
theorem es_opG {r : R2} {x : α} {y : β} {P : γ → Prop} (x0 : Ex B H) (ha : EvE E ta σ B H x) (hb : EvE F tb σ B H y)
    (hr : ∀ v w B2 H2, Ex B2 H2 → E.R B2 v x → F.R B2 w y → ∀ Q : VK, (∀ z c B3 H3, Stp B2 H2 B3 H3 → P c → G.R B3 z c → Q z H3) → r v w H2 Q) : EvS G (tOp r ta tb) σ B H P := fun H1 e Q k =>
  ha H1 e _ fun v x' B2 H2 t hx hR => by
    cases hx
    exact hb.up ((Stp.go x0 e).trans t) H2 (Ex.refl _) _ fun w y' B3 H3 t2 hy hR2 => by
      cases hy
      exact hr v w B3 H3 t2.bh (E.up t2.eb hR) hR2 Q fun z c B4 H4 t3 hc hz => k z c B4 H4 ((t.trans t2).trans t3) hc hz
theorem es_op {r : R2} {x : α} {y : β} {c : γ} (x0 : Ex B H) (ha : EvE E ta σ B H x) (hb : EvE F tb σ B H y)
    (hr : ∀ v w B2 H2, Ex B2 H2 → E.R B2 v x → F.R B2 w y → ∃ z, G.R B2 z c ∧ ∀ Q : VK, Q z H2 → r v w H2 Q) : EvE G (tOp r ta tb) σ B H c :=
  es_opG x0 ha hb fun v w B2 H2 x2 hv hw Q k => by
    obtain ⟨z, hz, q⟩ := hr v w B2 H2 x2 hv hw
    exact q Q (k z c B2 H2 (Stp.refl x2) rfl hz)
theorem es_opI {g : Int → Int → Int} {x y : Int} (x0 : Ex B H) (ha : EvE eI ta σ B H x) (hb : EvE eI tb σ B H y) : EvE eI (tOp (rI0 fun i j => .int (g i j)) ta tb) σ B H (g x y) :=
  es_op x0 ha hb fun v w B2 H2 _ hv hw => ⟨_, rfl, fun Q q => ⟨x, y, hv, hw, q⟩⟩
theorem es_opB {g : Int → Int → Bool} {x y : Int} (x0 : Ex B H) (ha : EvE eI ta σ B H x) (hb : EvE eI tb σ B H y) : EvE eB (tOp (rI0 fun i j => .bl (g i j)) ta tb) σ B H (g x y) :=
  es_op x0 ha hb fun v w B2 H2 _ hv hw => ⟨_, rfl, fun Q q => ⟨x, y, hv, hw, q⟩⟩
theorem es_opC {C : Int → Int → Prop} {g : Int → Int → Int} {x y : Int} (x0 : Ex B H) (ha : EvE eI ta σ B H x) (hb : EvE eI tb σ B H y) (hc : C x y) : EvE eI (tOp (rI C fun i j => .int (g i j)) ta tb) σ B H (g x y) :=
  es_op x0 ha hb fun v w B2 H2 _ hv hw => ⟨_, rfl, fun Q q => ⟨x, y, hv, hw, hc, q⟩⟩
theorem es_neg {x : Int} (ha : EvE eI ta σ B H x) : EvE eI (tUn (rU fun i => .int (-i)) ta) σ B H (-x) := fun H1 e Q k =>
  ha H1 e _ fun v x' B2 H2 t hx hR => by
    cases hx
    exact ⟨x, hR, k _ _ B2 H2 t rfl rfl⟩
theorem dec_int (x y : Int) : decide (V.int x = V.int y) = decide (x = y) := by
  by_cases h : x = y
  · subst h
    simp
  · rw [decide_eq_false h, decide_eq_false fun q => h (V.int.inj q)]
theorem dec_bl (x y : Bool) : decide (V.bl x = V.bl y) = decide (x = y) := by
  by_cases h : x = y
  · subst h
    simp
  · rw [decide_eq_false h, decide_eq_false fun q => h (V.bl.inj q)]
theorem es_eqI {x y : Int} (x0 : Ex B H) (ha : EvE eI ta σ B H x) (hb : EvE eI tb σ B H y) : EvE eB (tOp rEq ta tb) σ B H (decide (x = y)) :=
  es_op x0 ha hb fun v w B2 H2 _ hv hw => ⟨_, rfl, fun Q q => by
    cases hv
    cases hw
    exact ⟨rfl, by rw [dec_int]; exact q⟩⟩
theorem es_neI {x y : Int} (x0 : Ex B H) (ha : EvE eI ta σ B H x) (hb : EvE eI tb σ B H y) : EvE eB (tOp rNe ta tb) σ B H (!decide (x = y)) :=
  es_op x0 ha hb fun v w B2 H2 _ hv hw => ⟨_, rfl, fun Q q => by
    cases hv
    cases hw
    exact ⟨rfl, by rw [dec_int]; exact q⟩⟩
theorem es_eqB {x y : Bool} (x0 : Ex B H) (ha : EvE eB ta σ B H x) (hb : EvE eB tb σ B H y) : EvE eB (tOp rEq ta tb) σ B H (decide (x = y)) :=
  es_op x0 ha hb fun v w B2 H2 _ hv hw => ⟨_, rfl, fun Q q => by
    cases hv
    cases hw
    exact ⟨rfl, by rw [dec_bl]; exact q⟩⟩
theorem es_neB {x y : Bool} (x0 : Ex B H) (ha : EvE eB ta σ B H x) (hb : EvE eB tb σ B H y) : EvE eB (tOp rNe ta tb) σ B H (!decide (x = y)) :=
  es_op x0 ha hb fun v w B2 H2 _ hv hw => ⟨_, rfl, fun Q q => by
    cases hv
    cases hw
    exact ⟨rfl, by rw [dec_bl]; exact q⟩⟩
theorem non_oV (o : Option Int) : decide (oV o = V.non) = o.isNone := by
  cases o with
  | none => rfl
  | some n => exact decide_eq_false fun q => nomatch q
theorem es_isNO {o : Option Int} (x0 : Ex B H) (ha : EvE eO ta σ B H o) : EvE eB (tOp (fun x y H Q => y = V.non ∧ Q (.bl (decide (x = .non))) H) ta (tC .non)) σ B H o.isNone :=
  es_op x0 ha (es_non x0) fun v w B2 H2 _ hv hw => ⟨_, rfl, fun Q q => by
    cases hv
    cases hw
    exact ⟨rfl, by rw [non_oV]; exact q⟩⟩
theorem es_notNO {o : Option Int} (x0 : Ex B H) (ha : EvE eO ta σ B H o) : EvE eB (tOp (fun x y H Q => y = V.non ∧ Q (.bl (!decide (x = .non))) H) ta (tC .non)) σ B H (!o.isNone) :=
  es_op x0 ha (es_non x0) fun v w B2 H2 _ hv hw => ⟨_, rfl, fun Q q => by
    cases hv
    cases hw
    exact ⟨rfl, by rw [non_oV]; exact q⟩⟩

/-! chains a < b < c -/
theorem es_chain {r r' : R2} {x : α} {y : β} {z : γ} {b1 b2 : Bool} (x0 : Ex B H) (ha : EvE E ta σ B H x) (hb : EvE F tb σ B H y) (hc : EvE G tc σ B H z)
    (hr : ∀ v w B2 H2, E.R B2 v x → F.R B2 w y → ∀ Q : VK, Q (.bl b1) H2 → r v w H2 Q) (hr' : ∀ v w B2 H2, F.R B2 v y → G.R B2 w z → ∀ Q : VK, Q (.bl b2) H2 → r' v w H2 Q) :
    EvE eB (tChain r r' ta tb tc) σ B H (b1 && b2) := fun H1 e Q k =>
  ha H1 e _ fun v x' B2 H2 t hx hR => by
    cases hx
    exact hb.up ((Stp.go x0 e).trans t) H2 (Ex.refl _) _ fun w y' B3 H3 t2 hy hR2 => by
      cases hy
      refine hr v w B3 H3 (E.up t2.eb hR) hR2 _ ⟨b1, rfl, ?_⟩
      cases b1 with
      | false => exact iteF (k _ _ B3 H3 (t.trans t2) rfl rfl)
      | true =>
        refine iteT (hc.up (((Stp.go x0 e).trans t).trans t2) H3 (Ex.refl _) _ fun w2 z' B4 H4 t3 hz hR3 => ?_)
        cases hz
        exact hr' w w2 B4 H4 (F.up t3.eb hR2) hR3 _ (k _ _ B4 H4 ((t.trans t2).trans t3) rfl rfl)

/-! ### places of lists and tuples -/
theorem atI_of {ξ : Type} {xs : List ξ} {i : Int} {x : ξ} (h0 : 0 ≤ i) (h : xs[i.toNat]? = some x) : atI xs i = some x := by
  have e : ((i.toNat : Nat) : Int) = i := Int.toNat_of_nonneg h0
  rw [← e]
  exact atI_nat h
theorem es_ixL {xs : List α} {i : Int} {x : α} (x0 : Ex B H) (ha : EvE (eL E) ta σ B H xs) (hb : EvE eI tb σ B H i) (h0 : 0 ≤ i) (hx : xs[i.toNat]? = some x) : EvE E (tOp (rIxL K) ta tb) σ B H x :=
  es_op x0 ha hb fun v w B2 H2 x2 hv hw => by
    obtain ⟨a, vs, h1, h2, h3⟩ := hv
    obtain ⟨u, h4, h5⟩ := pget h3 hx
    exact ⟨u, h5, fun Q q => ⟨a, vs, i, u, h1, hw, SqL.of (x2 _ _ h2), atI_of h0 h4, q⟩⟩
theorem es_ixT {xs : List α} {i : Int} {x : α} (x0 : Ex B H) (ha : EvE (eT E) ta σ B H xs) (hb : EvE eI tb σ B H i) (h0 : 0 ≤ i) (hx : xs[i.toNat]? = some x) : EvE E (tOp (rIxT K) ta tb) σ B H x :=
  es_op x0 ha hb fun v w B2 H2 x2 hv hw => by
    obtain ⟨a, vs, h1, h2, h3⟩ := hv
    obtain ⟨u, h4, h5⟩ := pget h3 hx
    exact ⟨u, h5, fun Q q => ⟨a, vs, i, u, h1, hw, SqT.of (x2 _ _ h2), atI_of h0 h4, q⟩⟩
theorem es_tix {E' : Enc δ} {t : δ} {i : Nat} {x : α} (x0 : Ex B H) (ha : EvE E' ta σ B H t) (hx : ∀ B2 v, E'.R B2 v t → ∃ a us u, v = .ref a ∧ B2 a = some (.tup us) ∧ us[i]? = some u ∧ E.R B2 u x) : EvE E (tOp (rIxT K) ta (tC (.int (i : Int)))) σ B H x :=
  es_op x0 ha (es_int x0) fun v w B2 H2 x2 hv hw => by
    obtain ⟨a, us, u, h1, h2, h3, h4⟩ := hx B2 v hv
    exact ⟨u, h4, fun Q q => ⟨a, us, (i : Int), u, h1, hw, SqT.of (x2 _ _ h2), atI_nat h3, q⟩⟩
theorem es_20 {t : α × β} (x0 : Ex B H) (ha : EvE (e2 E F) ta σ B H t) : EvE E (tOp (rIxT K) ta (tC (.int 0))) σ B H t.1 := es_tix (i := 0) x0 ha fun B2 v ⟨a, u, w, h1, h2, h3, h4⟩ => ⟨a, _, u, h1, h2, rfl, h3⟩
theorem es_21 {t : α × β} (x0 : Ex B H) (ha : EvE (e2 E F) ta σ B H t) : EvE F (tOp (rIxT K) ta (tC (.int 1))) σ B H t.2 := es_tix (i := 1) x0 ha fun B2 v ⟨a, u, w, h1, h2, h3, h4⟩ => ⟨a, _, w, h1, h2, rfl, h4⟩
theorem es_30 {t : α × β × γ} (x0 : Ex B H) (ha : EvE (e3 E F G) ta σ B H t) : EvE E (tOp (rIxT K) ta (tC (.int 0))) σ B H t.1 := es_tix (i := 0) x0 ha fun B2 v ⟨a, u, w, z, h1, h2, h3, h4, h5⟩ => ⟨a, _, u, h1, h2, rfl, h3⟩
theorem es_31 {t : α × β × γ} (x0 : Ex B H) (ha : EvE (e3 E F G) ta σ B H t) : EvE F (tOp (rIxT K) ta (tC (.int 1))) σ B H t.2.1 := es_tix (i := 1) x0 ha fun B2 v ⟨a, u, w, z, h1, h2, h3, h4, h5⟩ => ⟨a, _, w, h1, h2, rfl, h4⟩
theorem es_32 {t : α × β × γ} (x0 : Ex B H) (ha : EvE (e3 E F G) ta σ B H t) : EvE G (tOp (rIxT K) ta (tC (.int 2))) σ B H t.2.2 := es_tix (i := 2) x0 ha fun B2 v ⟨a, u, w, z, h1, h2, h3, h4, h5⟩ => ⟨a, _, z, h1, h2, rfl, h5⟩
theorem es_H0 {t : Int × Int} (x0 : Ex B H) (ha : EvE eH ta σ B H t) : EvE eI (tOp (rIxT K) ta (tC (.int 0))) σ B H t.1 := es_tix (i := 0) x0 ha fun B2 v ⟨a, r, h1, h2⟩ => ⟨a, _, _, h1, h2, rfl, rfl⟩
theorem es_H1 {t : Int × Int} (x0 : Ex B H) (ha : EvE eH ta σ B H t) : EvE eI (tOp (rIxT K) ta (tC (.int 1))) σ B H t.2 := es_tix (i := 1) x0 ha fun B2 v ⟨a, r, h1, h2⟩ => ⟨a, _, _, h1, h2, rfl, rfl⟩

/-! ### in -/
theorem eqV_int (x y : Int) : eqV (V.int x) (V.int y) = decide (x = y) := by
  unfold eqV
  first
    | rfl
    | (by_cases h : x = y <;> simp [h])
theorem inV_ints (x : Int) : ∀ ns : List Int, inV (V.int x) (ns.map V.int) = decide (x ∈ ns)
  | [] => by simp [inV]
  | n :: r => by
    have ih := inV_ints x r
    unfold inV at ih ⊢
    rw [List.map_cons, List.any_cons, ih, eqV_int]
    by_cases h : n = x
    · subst h
      simp
    · have h' : ¬ x = n := fun q => h q.symm
      simp [h, h']
theorem flat_ints : ∀ ns : List Int, (ns.map V.int).all flatV = true
  | [] => rfl
  | _ :: r => by
    rw [List.map_cons, List.all_cons, flat_ints r]
    rfl
theorem es_inT {x : Int} {ns : List Int} (x0 : Ex B H) (ha : EvE eI ta σ B H x) (hb : EvE (eT eI) tb σ B H ns) : EvE eB (tOp (rIn K false) ta tb) σ B H (decide (x ∈ ns)) :=
  es_op x0 ha hb fun v w B2 H2 x2 hv hw => ⟨_, rfl, fun Q q => by
    cases hv
    obtain ⟨a, h1, h2⟩ := eTI hw
    exact ⟨a, _, h1, .inr (SqT.of (x2 _ _ h2)), rfl, flat_ints ns, by rw [inV_ints]; exact q⟩⟩
theorem es_ninT {x : Int} {ns : List Int} (x0 : Ex B H) (ha : EvE eI ta σ B H x) (hb : EvE (eT eI) tb σ B H ns) : EvE eB (tOp (rIn K true) ta tb) σ B H (!decide (x ∈ ns)) :=
  es_op x0 ha hb fun v w B2 H2 x2 hv hw => ⟨_, rfl, fun Q q => by
    cases hv
    obtain ⟨a, h1, h2⟩ := eTI hw
    exact ⟨a, _, h1, .inr (SqT.of (x2 _ _ h2)), rfl, flat_ints ns, by rw [inV_ints]; exact q⟩⟩
theorem es_inL {x : Int} {ns : List Int} (x0 : Ex B H) (ha : EvE eI ta σ B H x) (hb : EvE (eL eI) tb σ B H ns) : EvE eB (tOp (rIn K false) ta tb) σ B H (decide (x ∈ ns)) :=
  es_op x0 ha hb fun v w B2 H2 x2 hv hw => ⟨_, rfl, fun Q q => by
    cases hv
    obtain ⟨a, h1, h2⟩ := eLI hw
    exact ⟨a, _, h1, .inl (SqL.of (x2 _ _ h2)), rfl, flat_ints ns, by rw [inV_ints]; exact q⟩⟩
theorem es_ninL {x : Int} {ns : List Int} (x0 : Ex B H) (ha : EvE eI ta σ B H x) (hb : EvE (eL eI) tb σ B H ns) : EvE eB (tOp (rIn K true) ta tb) σ B H (!decide (x ∈ ns)) :=
  es_op x0 ha hb fun v w B2 H2 x2 hv hw => ⟨_, rfl, fun Q q => by
    cases hv
    obtain ⟨a, h1, h2⟩ := eLI hw
    exact ⟨a, _, h1, .inl (SqL.of (x2 _ _ h2)), rfl, flat_ints ns, by rw [inV_ints]; exact q⟩⟩
/-- a dict's keys -/
theorem val_keys {x : Int} : ∀ {kvs : List (Key × V)} {ks : List Int}, kvs.map (·.1) = ks.map Sum.inl → (valV kvs (Sum.inl x)).isSome = decide (x ∈ ks)
  | [], [], _ => rfl
  | [], _ :: _, h => by cases h
  | _ :: _, [], h => by cases h
  | p :: r, k :: ks, h => by
    rw [List.map_cons, List.map_cons] at h
    obtain ⟨h1, h2⟩ := List.cons.inj h
    have ih := val_keys (x := x) h2
    by_cases e : k = x
    · subst e
      rw [valV_pos h1]
      simp
    · have e' : ¬ p.1 = Sum.inl x := fun q => e (Sum.inl.inj (h1.symm.trans q))
      have e2 : ¬ x = k := fun q => e q.symm
      rw [valV_neg e', ih]
      simp [e2]
theorem es_din {x : Int} {ks : List Int} (x0 : Ex B H) (ha : EvE eI ta σ B H x) (hb : EvE eD tb σ B H ks) : EvE eB (tDIn ta tb) σ B H (decide (x ∈ ks)) := fun H1 e Q k =>
  ha H1 e _ fun v x' B2 H2 t hx hR => by
    cases hx
    exact hb.up ((Stp.go x0 e).trans t) H2 (Ex.refl _) _ fun w y' B3 H3 t2 hy hR2 => by
      cases hy
      cases hR
      obtain ⟨a, kvs, h1, h2, h3⟩ := hR2
      exact ⟨a, _, h1, DGet.k (k := Sum.inl x) (t2.bh _ _ h2), by rw [val_keys h3]; exact k _ _ B3 H3 (t.trans t2) rfl rfl⟩
theorem es_dnotin {x : Int} {ks : List Int} (x0 : Ex B H) (ha : EvE eI ta σ B H x) (hb : EvE eD tb σ B H ks) : EvE eB (tDNotIn ta tb) σ B H (!decide (x ∈ ks)) := fun H1 e Q k =>
  ha H1 e _ fun v x' B2 H2 t hx hR => by
    cases hx
    exact hb.up ((Stp.go x0 e).trans t) H2 (Ex.refl _) _ fun w y' B3 H3 t2 hy hR2 => by
      cases hy
      cases hR
      obtain ⟨a, kvs, h1, h2, h3⟩ := hR2
      exact ⟨a, _, h1, DGet.k (k := Sum.inl x) (t2.bh _ _ h2), by rw [val_keys h3]; exact k _ _ B3 H3 (t.trans t2) rfl rfl⟩

/-! ### arguments, displays -/
def aN : Hp → List V → Prop := fun _ vs => vs = []
def aC (E : Enc α) (S : α → Prop) (A : Hp → List V → Prop) : Hp → List V → Prop := fun B vs => ∃ v x r, vs = v :: r ∧ S x ∧ E.R B v x ∧ A B r
def EvAr (ta : TA) (σ : L2.St) (B H : Hp) (A : Hp → List V → Prop) : Prop := ∀ H1, Ex H H1 → ∀ Q : List V → Hp → Prop, (∀ vs B2 H2, Stp B H1 B2 H2 → A B2 vs → Q vs H2) → ta σ H1 Q
def MonoA (A : Hp → List V → Prop) : Prop := ∀ (B B' : Hp) (vs : List V), Ex B B' → A B vs → A B' vs
theorem mono_aN : MonoA aN := fun _ _ _ _ h => h
theorem mono_aC {A : Hp → List V → Prop} (m : MonoA A) : MonoA (aC E S A) := fun _ _ _ e ⟨v, x, r, h1, h2, h3, h4⟩ => ⟨v, x, r, h1, h2, E.up e h3, m _ _ _ e h4⟩
variable {ar : TA} {A : Hp → List V → Prop}
theorem ea_n (x0 : Ex B H) : EvAr tNil σ B H aN := fun H1 e Q k => k [] B H1 (Stp.refl (x0.trans e)) rfl
theorem ea_c (x0 : Ex B H) (m : MonoA A) (h : EvS E te σ B H S) (hr : EvAr ar σ B H A) : EvAr (tCons te ar) σ B H (aC E S A) := fun H1 e Q k =>
  h H1 e _ fun v x B2 H2 t hS hR => by
    have s := (Stp.go x0 e).trans t
    exact hr H2 s.eh _ fun vs B3 H3 t2 hA => k (v :: vs) (jn B2 B3) H3 (t.trans (s.join (Ex.refl _) t2)) ⟨v, x, vs, rfl, hS, E.up jn_l hR, m _ _ _ (jn_r ((t.bh.trans t2.eh)) t2.bh) hA⟩
/-- all of one kind, exactly -/
theorem ea_nil' (x0 : Ex B H) : EvAr tNil σ B H (fun B vs => Paired (E.R B) vs ([] : List α)) := fun H1 e Q k => k [] B H1 (Stp.refl (x0.trans e)) .nil
theorem ea_cons' {x : α} {xs : List α} (x0 : Ex B H) (h : EvE E te σ B H x) (hr : EvAr ar σ B H (fun B vs => Paired (E.R B) vs xs)) : EvAr (tCons te ar) σ B H (fun B vs => Paired (E.R B) vs (x :: xs)) := fun H1 e Q k =>
  h H1 e _ fun v x B2 H2 t hS hR => by
    cases hS
    have s := (Stp.go x0 e).trans t
    exact hr H2 s.eh _ fun vs B3 H3 t2 hA => k (v :: vs) (jn B2 B3) H3 (t.trans (s.join (Ex.refl _) t2)) (.cons (E.up jn_l hR) (E.ups (jn_r ((t.bh.trans t2.eh)) t2.bh) hA))
theorem pl {R : V → α → Prop} {vs : List V} {xs : List α} (p : Paired R vs xs) : vs.length = xs.length := Paired.length p
theorem em_lst {xs : List α} (h : EvAr ar σ B H (fun B vs => Paired (E.R B) vs xs)) (hz : xs.length ≤ 100000) : EvM E (tLst ar) σ B H (fun ys => ys = xs) := fun H1 e Q k =>
  h H1 e _ fun vs B2 H2 t hA => ⟨sz_of (by rw [pl hA]; exact hz), fun p hp => k p vs xs B2 _ (t.trans (Stp.go t.bh (Ex.new hp))) (fresh_back t.eh hp) (fresh_back t.bh hp) upd_same rfl hA⟩
theorem em_nil (x0 : Ex B H) : EvM E (tLst tNil) σ B H (fun ys => ys = []) := em_lst (ea_nil' x0) (Nat.zero_le _)
theorem es_tupT {xs : List α} (h : EvAr ar σ B H (fun B vs => Paired (E.R B) vs xs)) (hz : xs.length ≤ 100000) : EvE (eT E) (tTup ar) σ B H xs := fun H1 e Q k =>
  h H1 e _ fun vs B2 H2 t hA => ⟨sz_of (by rw [pl hA]; exact hz), fun p hp => k (.ref p) xs (upd B2 p (.tup vs)) _ (t.trans (Stp.new t.bh hp)) rfl ⟨p, vs, rfl, upd_same, E.ups (Ex.new (fresh_back t.bh hp)) hA⟩⟩
theorem es_tup2 {T : β → Prop} (x0 : Ex B H) (ha : EvS E ta σ B H S) (hb : EvS F tb σ B H T) : EvS (e2 E F) (tTup (tCons ta (tCons tb tNil))) σ B H (fun p => S p.1 ∧ T p.2) := fun H1 e Q k =>
  ea_c (S := S) x0 (mono_aC mono_aN) ha (ea_c (S := T) x0 mono_aN hb (ea_n x0)) H1 e _ fun vs B2 H2 t hA => by
    obtain ⟨v, x, r, rfl, hS, hx, w, y, r', rfl, hT, hy, rfl⟩ := hA
    exact ⟨by show 2 ≤ sizeLine; decide, fun p hp => k (.ref p) (x, y) (upd B2 p (.tup [v, w])) _ (t.trans (Stp.new t.bh hp)) ⟨hS, hT⟩ ⟨p, v, w, rfl, upd_same, E.up (Ex.new (fresh_back t.bh hp)) hx, F.up (Ex.new (fresh_back t.bh hp)) hy⟩⟩
theorem es_tup3 {T : β → Prop} {U : γ → Prop} (x0 : Ex B H) (ha : EvS E ta σ B H S) (hb : EvS F tb σ B H T) (hc : EvS G tc σ B H U) : EvS (e3 E F G) (tTup (tCons ta (tCons tb (tCons tc tNil)))) σ B H (fun p => S p.1 ∧ T p.2.1 ∧ U p.2.2) := fun H1 e Q k =>
  ea_c x0 (mono_aC (mono_aC mono_aN)) ha (ea_c x0 (mono_aC mono_aN) hb (ea_c x0 mono_aN hc (ea_n x0))) H1 e _ fun vs B2 H2 t hA => by
    obtain ⟨v, x, r, rfl, hS, hx, w, y, r', rfl, hT, hy, u, z, r'', rfl, hU, hz, rfl⟩ := hA
    exact ⟨by show 3 ≤ sizeLine; decide, fun p hp => k (.ref p) (x, y, z) (upd B2 p (.tup [v, w, u])) _ (t.trans (Stp.new t.bh hp)) ⟨hS, hT, hU⟩ ⟨p, v, w, u, rfl, upd_same, E.up (Ex.new (fresh_back t.bh hp)) hx, F.up (Ex.new (fresh_back t.bh hp)) hy, G.up (Ex.new (fresh_back t.bh hp)) hz⟩⟩

/-! ### calls -/
/-- a def's promise: arguments that stand for an i with Pre i; it tells what stands for some y with Post i y, and changes nothing -/
def Spec {ι : Type} (A : ι → Hp → List V → Prop) (Pre : ι → Prop) (F : Enc β) (Post : ι → β → Prop) : Sp := fun vs H Q _ => ∃ (i : ι) (B : Hp), Ex B H ∧ A i B vs ∧ Pre i ∧ ∀ w y B2 H2, Stp B H B2 H2 → Post i y → F.R B2 w y → Q w H2
def SpecM {ι : Type} (A : ι → Hp → List V → Prop) (Pre : ι → Prop) (F : Enc β) (Post : ι → List β → Prop) : Sp := fun vs H Q _ => ∃ (i : ι) (B : Hp), Ex B H ∧ A i B vs ∧ Pre i ∧ ∀ p ws ys B2 H2, Stp B H B2 H2 → H p = none → B2 p = none → H2 p = some (.lst ws) → Post i ys → Paired (F.R B2) ws ys → Q (.ref p) H2
abbrev ar1 (E : Enc α) (x : α) : Hp → List V → Prop := aC E (fun y => y = x) aN
abbrev ar2 (E : Enc α) (F : Enc β) (x : α × β) : Hp → List V → Prop := aC E (fun y => y = x.1) (aC F (fun y => y = x.2) aN)
abbrev ar3 (E : Enc α) (F : Enc β) (G : Enc γ) (x : α × β × γ) : Hp → List V → Prop := aC E (fun y => y = x.1) (aC F (fun y => y = x.2.1) (aC G (fun y => y = x.2.2) aN))
abbrev ar4 (E : Enc α) (F : Enc β) (G : Enc γ) (D : Enc δ) (x : α × β × γ × δ) : Hp → List V → Prop := aC E (fun y => y = x.1) (aC F (fun y => y = x.2.1) (aC G (fun y => y = x.2.2.1) (aC D (fun y => y = x.2.2.2) aN)))
abbrev ar5 (E : Enc α) (F : Enc β) (G : Enc γ) (D : Enc δ) (C : Enc ε) (x : α × β × γ × δ × ε) : Hp → List V → Prop := aC E (fun y => y = x.1) (aC F (fun y => y = x.2.1) (aC G (fun y => y = x.2.2.1) (aC D (fun y => y = x.2.2.2.1) (aC C (fun y => y = x.2.2.2.2) aN))))
theorem es_call {ι : Type} {A : ι → Hp → List V → Prop} {Pre : ι → Prop} {Post : ι → β → Prop} {X : XK} (i : ι) (x0 : Ex B H) (h : EvAr ar σ B H (A i)) (p : Pre i) : EvS F (tCall (Spec A Pre F Post) [] X ar) σ B H (Post i) := fun H1 e Q k =>
  h H1 e _ fun vs B2 H2 t hA => ⟨i, B2, t.bh, by rw [List.append_nil]; exact hA, p, fun w y B3 H3 t2 hy hR => k w y B3 H3 (t.trans t2) hy hR⟩
theorem em_call {ι : Type} {A : ι → Hp → List V → Prop} {Pre : ι → Prop} {Post : ι → List β → Prop} {X : XK} (i : ι) (x0 : Ex B H) (h : EvAr ar σ B H (A i)) (p : Pre i) : EvM F (tCall (SpecM A Pre F Post) [] X ar) σ B H (Post i) := fun H1 e Q k =>
  h H1 e _ fun vs B2 H2 t hA => ⟨i, B2, t.bh, by rw [List.append_nil]; exact hA, p, fun p ws ys B3 H3 t2 hp bp hl hy hR => k p ws ys B3 H3 (t.trans t2) (fresh_back t.eh hp) bp hl hy hR⟩
/-- a built-in's call, one argument -/
theorem es_cb1 {r : List V → Hp → VK → Prop} {x : α} {P : γ → Prop} (x0 : Ex B H) (h : EvE E ta σ B H x) (hr : ∀ v B2 H2, Ex B2 H2 → E.R B2 v x → ∀ Q : VK, (∀ z c B3 H3, Stp B2 H2 B3 H3 → P c → G.R B3 z c → Q z H3) → r [v] H2 Q) : EvS G (tCB r (tCons ta tNil)) σ B H P := fun H1 e Q k =>
  h H1 e _ fun v x' B2 H2 t hS hR => by
    cases hS
    exact hr v B2 H2 t.bh hR Q fun z c B3 H3 t2 hc hz => k z c B3 H3 (t.trans t2) hc hz
theorem es_cb2 {r : List V → Hp → VK → Prop} {x : α} {y : β} {P : γ → Prop} (x0 : Ex B H) (h : EvE E ta σ B H x) (h2 : EvE F tb σ B H y)
    (hr : ∀ v w B2 H2, Ex B2 H2 → E.R B2 v x → F.R B2 w y → ∀ Q : VK, (∀ z c B3 H3, Stp B2 H2 B3 H3 → P c → G.R B3 z c → Q z H3) → r [v, w] H2 Q) : EvS G (tCB r (tCons ta (tCons tb tNil))) σ B H P := fun H1 e Q k =>
  h H1 e _ fun v x' B2 H2 t hS hR => by
    cases hS
    exact h2.up ((Stp.go x0 e).trans t) H2 (Ex.refl _) _ fun w y' B3 H3 t2 hy hR2 => by
      cases hy
      exact hr v w B3 H3 t2.bh (E.up t2.eb hR) hR2 Q fun z c B4 H4 t3 hc hz => k z c B4 H4 ((t.trans t2).trans t3) hc hz
theorem em_cb1 {r : List V → Hp → VK → Prop} {x : α} {P : List γ → Prop} (x0 : Ex B H) (h : EvE E ta σ B H x) (hr : ∀ v B2 H2, Ex B2 H2 → E.R B2 v x → ∀ Q : VK, (∀ p ws, (∃ ys, P ys ∧ Paired (G.R B2) ws ys) → H2 p = none → Q (.ref p) (upd H2 p (.lst ws))) → r [v] H2 Q) : EvM G (tCB r (tCons ta tNil)) σ B H P := fun H1 e Q k =>
  h H1 e _ fun v x' B2 H2 t hS hR => by
    cases hS
    exact hr v B2 H2 t.bh hR Q fun p ws ⟨ys, hP, hy⟩ hp => k p ws ys B2 _ (t.trans (Stp.go t.bh (Ex.new hp))) (fresh_back t.eh hp) (fresh_back t.bh hp) upd_same hP hy
def rListS' (K : PySem.W.Frag) : List V → Hp → VK → Prop := fun xs H Q => ∃ p ys, xs = [V.ref p] ∧ (SqL K H p ys ∨ SqT K H p ys) ∧ ∀ l, H l = none → Q (.ref l) (upd H l (.lst ys))
def rTupS' (K : PySem.W.Frag) : List V → Hp → VK → Prop := fun xs H Q => ∃ p ys, xs = [V.ref p] ∧ ((SqL K H p ys ∧ ∀ l, H l = none → Q (.ref l) (upd H l (.tup ys))) ∨ (SqT K H p ys ∧ Q (.ref p) H))
def rLenD' : List V → Hp → VK → Prop := fun xs H Q => ∃ a kvs, xs = [V.ref a] ∧ H a = some (.dK kvs) ∧ Q (.int kvs.length) H
section
variable {X : Cx}
theorem cl_len : CallR X (.builtin "len") (rLenS X.K) := call_len_seq
theorem cl_list : CallR X (.type "list") (rListS' X.K) := call_list_of
theorem cl_tuple : CallR X (.type "tuple") (rTupS' X.K) := call_tuple_of
theorem cl_lenD : CallR X (.builtin "len") rLenD' := call_lenD
end
theorem es_lenL {xs : List α} (x0 : Ex B H) (h : EvE (eL E) ta σ B H xs) : EvE eI (tCB (rLenS K) (tCons ta tNil)) σ B H (xs.length : Int) :=
  es_cb1 x0 h fun v B2 H2 x2 ⟨a, vs, h1, h2, h3⟩ Q k => ⟨a, vs, by rw [h1], .inl (SqL.of (x2 _ _ h2)), by rw [pl h3]; exact k _ _ B2 H2 (Stp.refl x2) rfl rfl⟩
theorem es_lenT {xs : List α} (x0 : Ex B H) (h : EvE (eT E) ta σ B H xs) : EvE eI (tCB (rLenS K) (tCons ta tNil)) σ B H (xs.length : Int) :=
  es_cb1 x0 h fun v B2 H2 x2 ⟨a, vs, h1, h2, h3⟩ Q k => ⟨a, vs, by rw [h1], .inr (SqT.of (x2 _ _ h2)), by rw [pl h3]; exact k _ _ B2 H2 (Stp.refl x2) rfl rfl⟩
theorem es_lenD {ks : List Int} (x0 : Ex B H) (h : EvE eD ta σ B H ks) : EvE eI (tCB rLenD' (tCons ta tNil)) σ B H (ks.length : Int) :=
  es_cb1 x0 h fun v B2 H2 x2 ⟨a, kvs, h1, h2, h3⟩ Q k => ⟨a, kvs, by rw [h1], x2 _ _ h2, by
    have e : kvs.length = ks.length := by
      have q := congrArg List.length h3
      rw [List.length_map, List.length_map] at q
      exact q
    rw [e]
    exact k _ _ B2 H2 (Stp.refl x2) rfl rfl⟩
theorem em_listL {xs : List α} (x0 : Ex B H) (h : EvE (eL E) ta σ B H xs) : EvM E (tCB (rListS' K) (tCons ta tNil)) σ B H (fun ys => ys = xs) :=
  em_cb1 x0 h fun v B2 H2 x2 ⟨a, vs, h1, h2, h3⟩ Q k => ⟨a, vs, by rw [h1], .inl (SqL.of (x2 _ _ h2)), fun l hl => k l vs ⟨xs, rfl, h3⟩ hl⟩
theorem em_listT {xs : List α} (x0 : Ex B H) (h : EvE (eT E) ta σ B H xs) : EvM E (tCB (rListS' K) (tCons ta tNil)) σ B H (fun ys => ys = xs) :=
  em_cb1 x0 h fun v B2 H2 x2 ⟨a, vs, h1, h2, h3⟩ Q k => ⟨a, vs, by rw [h1], .inr (SqT.of (x2 _ _ h2)), fun l hl => k l vs ⟨xs, rfl, h3⟩ hl⟩
theorem es_tupL {xs : List α} (x0 : Ex B H) (h : EvE (eL E) ta σ B H xs) : EvE (eT E) (tCB (rTupS' K) (tCons ta tNil)) σ B H xs :=
  es_cb1 x0 h fun v B2 H2 x2 ⟨a, vs, h1, h2, h3⟩ Q k => ⟨a, vs, by rw [h1], .inl ⟨SqL.of (x2 _ _ h2), fun l hl => k (.ref l) xs (upd B2 l (.tup vs)) _ (Stp.new x2 hl) rfl ⟨l, vs, rfl, upd_same, E.ups (Ex.new (fresh_back x2 hl)) h3⟩⟩⟩
theorem es_sum {ns : List Int} (x0 : Ex B H) (h : EvE (eL eI) ta σ B H ns) : EvE eI (tCB (rSum K) (tCons ta tNil)) σ B H ns.sum :=
  es_cb1 x0 h fun v B2 H2 x2 hR Q k => by
    obtain ⟨a, h1, h2⟩ := eLI hR
    exact ⟨a, ns, by rw [h1], SqL.of (x2 _ _ h2), k _ _ B2 H2 (Stp.refl x2) rfl rfl⟩
theorem es_min {ns : List Int} (x0 : Ex B H) (h : EvE (eL eI) ta σ B H ns) (hz : 0 < ns.length) : EvS eI (tCB (rMin K) (tCons ta tNil)) σ B H (fun m => m ∈ ns ∧ ∀ y ∈ ns, m ≤ y) :=
  es_cb1 x0 h fun v B2 H2 x2 hR Q k => by
    obtain ⟨a, h1, h2⟩ := eLI hR
    exact ⟨a, ns, by rw [h1], SqL.of (x2 _ _ h2), hz, fun m hm hle => k _ _ B2 H2 (Stp.refl x2) ⟨hm, hle⟩ rfl⟩
end
end RR
namespace RR
open PySem L2 Evl
section
variable {α β γ δ ε : Type} {E : Enc α} {F : Enc β} {G : Enc γ}
variable {te ta tb tc tl : TE} {tt : TT} {σ : L2.St} {B H B0 H0 B1 H1 : Hp} {S : α → Prop} {K : PySem.W.Frag}

/-! ### comprehensions -/
/-- what holds ahead of turn i: D is where the new list stands -/
def Lw (F : Enc β) (Tr : α → β → Prop) (p : α → Bool) (B1 H1 : Hp) (D : Addr) (xs : List α) (i : Nat) (H' : Hp) : Prop :=
  ∃ B' acc ys, Stp B1 H1 B' H' ∧ Cell H1 B' H' D (.lst acc) ∧ Paired (F.R B') acc ys ∧ Paired Tr ((xs.take i).filter p) ys ∧ acc.length ≤ i
theorem lw_start {Tr : α → β → Prop} {p : α → Bool} {D : Addr} {xs : List α} (x1 : Ex B1 H1) (hD : H1 D = none) : Lw F Tr p B1 H1 D xs 0 (upd H1 D (.lst [])) :=
  ⟨B1, [], [], Stp.go x1 (Ex.new hD), ⟨hD, fresh_back x1 hD, upd_same⟩, .nil, .nil, Nat.le_refl _⟩
theorem lw_turn {Tr : α → β → Prop} {p : α → Bool} {D : Addr} {xs : List α} {i : Nat} {H' : Hp} {x : α} {σ2 : L2.St} (hw : Lw F Tr p B1 H1 D xs i H') (hx : xs[i]? = some x) (hz : i < 50000)
    (ht : ∀ B' , Stp B1 H1 B' H' → EvT tt σ2 H' (p x)) (he : p x = true → ∀ B', Stp B1 H1 B' H' → EvS F te σ2 B' H' (Tr x)) :
    tt σ2 H' fun b H3 => if b = true then te σ2 H3 fun y H4 => ∃ acc, H4 D = some (.lst acc) ∧ acc.length < sizeLine ∧ Lw F Tr p B1 H1 D xs (i + 1) (upd H4 D (.lst (acc ++ [y]))) else Lw F Tr p B1 H1 D xs (i + 1) H3 := by
  obtain ⟨B', acc, ys, s, c, h1, h2, h3⟩ := hw
  refine ht B' s H' (Ex.refl _) _ fun H3 e3 => ?_
  have tk := take_succ_filter p xs i x hx
  cases hp : p x with
  | true =>
    rw [hp] at tk
    refine iteT (he hp B' s H3 e3 _ fun y yy B4 H4 t4 hT hR => ⟨acc, t4.eh _ _ (e3 _ _ c.h), sz_lt (by omega), B4, acc ++ [y], ys ++ [yy], ?_, ?_, ?_, ?_, ?_⟩)
    · exact ((c.go e3).up t4).mut ((s.goH e3).trans t4)
    · exact ((c.go e3).up t4).same
    · exact Paired.snoc (F.ups t4.eb h1) hR
    · rw [tk, if_pos rfl]
      exact Paired.snoc h2 hT
    · rw [List.length_append, List.length_singleton]
      omega
  | false =>
    rw [hp] at tk
    refine iteF ⟨B', acc, ys, s.goH e3, c.go e3, h1, ?_, by omega⟩
    rw [tk, if_neg Bool.false_ne_true, List.append_nil]
    exact h2
theorem em_lcL {xs : List α} {p : α → Bool} {Tr : α → β → Prop} {j : Nat} {vs : List Nat} (x0 : Ex B H) (h : EvE (eL E) tl σ B H xs) (hz : xs.length ≤ 40000)
    (hw : ∀ v, wipe ((wipe σ vs).set j (some v)) vs = wipe σ vs)
    (ht : ∀ x v B1 H1, Stp B H B1 H1 → x ∈ xs → E.R B1 v x → EvT tt ((wipe σ vs).set j (some v)) H1 (p x))
    (he : ∀ x v B1 H1, Stp B H B1 H1 → x ∈ xs → E.R B1 v x → p x = true → EvS F te ((wipe σ vs).set j (some v)) B1 H1 (Tr x)) :
    EvM F (tLc (iList K tl) (gName j) tt te vs) σ B H (fun ys => Paired Tr (xs.filter p) ys) := fun H0 e Q k =>
  h H0 e _ fun v x' B1 H1 t hx hR => by
    cases hx
    obtain ⟨a, ws, rfl, h2, h3⟩ := hR
    have s0 := (Stp.go x0 e).trans t
    refine ⟨a, rfl, ⟨ws, SqL.of (t.bh _ _ h2)⟩, fun D hD => lc_list (xs := ws) (Lw F Tr p B1 H1 D xs) (lw_start t.bh hD) (fun i H' hi hP => ?_) (fun i w H' hi hP => ?_) (fun H' hP => ?_)⟩
    · obtain ⟨B', acc, ys, s, _⟩ := hP
      exact SqL.of (s.bh _ _ (s.eb _ _ h2))
    · obtain ⟨x, hx, hr⟩ := pgetV h3 hi
      have hm : x ∈ xs := List.mem_of_getElem? hx
      exact ⟨hw w, lw_turn hP hx (by have := (List.getElem?_eq_some_iff.mp hx).1; omega) (fun B' s => ht x w B' H' (s0.trans s) hm (E.up s.eb hr)) (fun hp B' s => he x w B' H' (s0.trans s) hm (E.up s.eb hr) hp)⟩
    · obtain ⟨B', acc, ys, s, c, q1, q2, q3⟩ := hP
      rw [pl h3, List.take_length] at q2
      exact k D acc ys B' H' (t.trans s) (fresh_back t.eh hD) c.b c.h q2 q1
theorem em_lcT {xs : List α} {p : α → Bool} {Tr : α → β → Prop} {j : Nat} {vs : List Nat} (x0 : Ex B H) (h : EvE (eT E) tl σ B H xs) (hz : xs.length ≤ 40000)
    (hw : ∀ v, wipe ((wipe σ vs).set j (some v)) vs = wipe σ vs)
    (ht : ∀ x v B1 H1, Stp B H B1 H1 → x ∈ xs → E.R B1 v x → EvT tt ((wipe σ vs).set j (some v)) H1 (p x))
    (he : ∀ x v B1 H1, Stp B H B1 H1 → x ∈ xs → E.R B1 v x → p x = true → EvS F te ((wipe σ vs).set j (some v)) B1 H1 (Tr x)) :
    EvM F (tLc (iTup K tl) (gName j) tt te vs) σ B H (fun ys => Paired Tr (xs.filter p) ys) := fun H0 e Q k =>
  h H0 e _ fun v x' B1 H1 t hx hR => by
    cases hx
    obtain ⟨a, ws, rfl, h2, h3⟩ := hR
    have s0 := (Stp.go x0 e).trans t
    refine ⟨a, rfl, ⟨ws, SqT.of (t.bh _ _ h2)⟩, fun D hD => lc_tup (xs := ws) (Lw F Tr p B1 H1 D xs) (lw_start t.bh hD) (fun i H' hi hP => ?_) (fun i w H' hi hP => ?_) (fun H' hP => ?_)⟩
    · obtain ⟨B', acc, ys, s, _⟩ := hP
      exact SqT.of (s.bh _ _ (s.eb _ _ h2))
    · obtain ⟨x, hx, hr⟩ := pgetV h3 hi
      have hm : x ∈ xs := List.mem_of_getElem? hx
      exact ⟨hw w, lw_turn hP hx (by have := (List.getElem?_eq_some_iff.mp hx).1; omega) (fun B' s => ht x w B' H' (s0.trans s) hm (E.up s.eb hr)) (fun hp B' s => he x w B' H' (s0.trans s) hm (E.up s.eb hr) hp)⟩
    · obtain ⟨B', acc, ys, s, c, q1, q2, q3⟩ := hP
      rw [pl h3, List.take_length] at q2
      exact k D acc ys B' H' (t.trans s) (fresh_back t.eh hD) c.b c.h q2 q1
/-- over a list of ints that H knows (it may be one that changes) -/
theorem em_lcH {ns : List Int} {p : Int → Bool} {Tr : Int → β → Prop} {j : Nat} {vs : List Nat} (x0 : Ex B H) (h : EvE (eL eI) tl σ H H ns) (hz : ns.length ≤ 40000)
    (hw : ∀ v, wipe ((wipe σ vs).set j (some v)) vs = wipe σ vs)
    (ht : ∀ n B1 H1, Stp B H B1 H1 → n ∈ ns → EvT tt ((wipe σ vs).set j (some (.int n))) H1 (p n))
    (he : ∀ n B1 H1, Stp B H B1 H1 → n ∈ ns → p n = true → EvS F te ((wipe σ vs).set j (some (.int n))) B1 H1 (Tr n)) :
    EvM F (tLc (iList K tl) (gName j) tt te vs) σ B H (fun ys => Paired Tr (ns.filter p) ys) := fun H0 e Q k =>
  h H0 e _ fun v x' C1 H1 t hx hR => by
    cases hx
    obtain ⟨a, rfl, h2⟩ := eLI hR
    have e1 : Ex H H1 := e.trans t.eh
    have s0 : Stp B H B H1 := Stp.go x0 e1
    refine ⟨a, rfl, ⟨_, SqL.of (t.bh _ _ h2)⟩, fun D hD => lc_list (xs := ns.map V.int) (Lw F Tr p B H1 D ns) (lw_start (x0.trans e1) hD) (fun i H' hi hP => ?_) (fun i w H' hi hP => ?_) (fun H' hP => ?_)⟩
    · obtain ⟨B', acc, ys, s, _⟩ := hP
      exact SqL.of (s.eh _ _ (t.bh _ _ h2))
    · obtain ⟨n, hx, hr⟩ := pgetV (pI' (H := H) ns) hi
      cases hr
      have hm : n ∈ ns := List.mem_of_getElem? hx
      exact ⟨hw _, lw_turn hP hx (by have := (List.getElem?_eq_some_iff.mp hx).1; omega) (fun B' s => ht n B' H' (s0.trans s) hm) (fun hp B' s => he n B' H' (s0.trans s) hm hp)⟩
    · obtain ⟨B', acc, ys, s, c, q1, q2, q3⟩ := hP
      rw [List.length_map, List.take_length] at q2
      exact k D acc ys B' H' ((Stp.go (x0.trans e) t.eh).trans s) (fresh_back t.eh hD) c.b c.h q2 q1
/-- nought, one, .. below n -/
def rg (n : Int) : List Int := (List.range n.toNat).map fun (k : Nat) => (k : Int)
theorem rg_len (n : Int) : (rg n).length = n.toNat := by
  unfold rg
  rw [List.length_map, List.length_range]
theorem rg_get {n : Int} {i : Nat} (h : i < n.toNat) : (rg n)[i]? = some (i : Int) := by
  unfold rg
  rw [List.getElem?_map, List.getElem?_range h]
  rfl
theorem mem_rg {n k : Int} : k ∈ rg n ↔ 0 ≤ k ∧ k < n := by
  unfold rg
  rw [List.mem_map]
  constructor
  · rintro ⟨a, ha, rfl⟩
    rw [List.mem_range] at ha
    omega
  · rintro ⟨h0, h1⟩
    exact ⟨k.toNat, by rw [List.mem_range]; omega, by omega⟩
theorem em_lcR {n : Int} {p : Int → Bool} {Tr : Int → β → Prop} {j : Nat} {vs : List Nat} (x0 : Ex B H) (h : EvE eI tl σ B H n) (hz : n ≤ 40000) (hz' : -40000 ≤ n)
    (hw : ∀ v, wipe ((wipe σ vs).set j (some v)) vs = wipe σ vs)
    (ht : ∀ (k : Int) B1 H1, Stp B H B1 H1 → 0 ≤ k → k < n → EvT tt ((wipe σ vs).set j (some (.int k))) H1 (p k))
    (he : ∀ (k : Int) B1 H1, Stp B H B1 H1 → 0 ≤ k → k < n → p k = true → EvS F te ((wipe σ vs).set j (some (.int k))) B1 H1 (Tr k)) :
    EvM F (tLc (iRng1 (tCons tl tNil)) (gName j) tt te vs) σ B H (fun ys => Paired Tr ((rg n).filter p) ys) := fun H0 e Q k =>
  h H0 e _ fun v x' B1 H1 t hx hR => by
    cases hx
    cases hR
    have s0 := (Stp.go x0 e).trans t
    refine ⟨n, rfl, by omega, by omega, fun D hD => lc_range (lo := 0) (n := n.toNat) (Lw F Tr p B1 H1 D (rg n)) (lw_start t.bh hD) (fun i H' hi hP => ?_) (fun H' hP => ?_)⟩
    · have e0 : (0 : Int) + (i : Int) = (i : Int) := Int.zero_add _
      rw [e0]
      exact ⟨hw _, lw_turn hP (rg_get hi) (by omega) (fun B' s => ht i B' H' (s0.trans s) (by omega) (by omega)) (fun hp B' s => he i B' H' (s0.trans s) (by omega) (by omega) hp)⟩
    · obtain ⟨B', acc, ys, s, c, q1, q2, q3⟩ := hP
      rw [← rg_len n, List.take_length] at q2
      exact k D acc ys B' H' (t.trans s) (fresh_back t.eh hD) c.b c.h q2 q1
theorem et_yes {σ : L2.St} {H : Hp} : EvT tYes σ H true := fun H1 e Q q => q H1 (Ex.refl _)
theorem pair_fun {f : α → β} : ∀ {xs : List α} {ys : List β}, Paired (fun x y => y = f x) xs ys → ys = xs.map f
  | _, _, .nil => rfl
  | _, _, .cons r t => by
    rw [pair_fun t, r]
    rfl
theorem filter_yes (xs : List α) : xs.filter (fun _ => true) = xs := by
  induction xs with
  | nil => rfl
  | cons x r ih => rw [List.filter_cons, if_pos rfl, ih]

/-! ### slices, joins -/
def cutP (xs : List α) (lo hi : Option Int) : List α := (xs.drop (HT.sIx xs.length 0 lo)).take (HT.sIx xs.length xs.length hi - HT.sIx xs.length 0 lo)
theorem pcut {R : V → α → Prop} {vs : List V} {xs : List α} (lo hi : Option Int) (p : Paired R vs xs) : Paired R (cutV vs lo hi) (cutP xs lo hi) := by
  unfold cutV cutP
  rw [pl p]
  exact ptake _ (pdrop _ p)
def EvO' (to : TO) (σ : L2.St) (H : Hp) (o : Option Int) : Prop := EvO to σ H o
theorem em_slL {to1 to2 : TO} {xs : List α} {lo hi : Option Int} (x0 : Ex B H) (h : EvE (eL E) te σ B H xs) (h1 : EvO to1 σ H lo) (h2 : EvO to2 σ H hi) : EvM E (tSl (rSlL K) te to1 to2) σ B H (fun ys => ys = cutP xs lo hi) := fun H1 e Q k =>
  h H1 e _ fun v x' B2 H2 t hx hR => by
    cases hx
    obtain ⟨a, vs, rfl, q2, q3⟩ := hR
    refine h1 H2 (e.trans t.eh) _ fun H3 e3 => h2 H3 ((e.trans t.eh).trans e3) _ fun H4 e4 => ⟨a, vs, rfl, SqL.of (e4 _ _ (e3 _ _ (t.bh _ _ q2))), fun p hp => ?_⟩
    have s := t.goH (e3.trans e4)
    exact k p _ _ B2 _ (s.goH (Ex.new hp)) (fresh_back s.eh hp) (fresh_back s.bh hp) upd_same rfl (pcut lo hi q3)
theorem eo_some' {i : Int} (h : EvE eI te σ B H i) : EvO (tPart te) σ H (some i) := eo_some (ev_sI h)
theorem em_cat {xs ys : List α} (x0 : Ex B H) (ha : EvE (eL E) ta σ B H xs) (hb : EvE (eL E) tb σ B H ys) (hz : xs.length + ys.length ≤ 100000) : EvM E (tOp rCat ta tb) σ B H (fun zs => zs = xs ++ ys) := fun H1 e Q k =>
  ha H1 e _ fun v x' B2 H2 t hx hR => by
    cases hx
    exact hb.up ((Stp.go x0 e).trans t) H2 (Ex.refl _) _ fun w y' B3 H3 t2 hy hR2 => by
      cases hy
      obtain ⟨a, vs, rfl, q2, q3⟩ := hR
      obtain ⟨b, ws, rfl, q5, q6⟩ := hR2
      refine ⟨a, b, vs, ws, rfl, rfl, t2.bh _ _ (t2.eb _ _ q2), t2.bh _ _ q5, sz_of (by rw [pl q3, pl q6]; exact hz), fun p hp => ?_⟩
      have s := t.trans t2
      exact k p _ _ B3 _ (s.goH (Ex.new hp)) (fresh_back s.eh hp) (fresh_back s.bh hp) upd_same rfl (papp (E.ups t2.eb q3) q6)

/-! ### statements -/
variable {D : Ends} {tu tw tz : TS} {g : TG} {i : Nat}
theorem q_setI {n : Int} (h : EvE eI te σ B H n) (k : ∀ H1, Ex H H1 → tz D (σ.set i (some (.int n))) H1) : tSeq (tAsg te (gName i)) tz D σ H := q_asg (ev_sI h) k
theorem q_setB {b : Bool} (h : EvE eB te σ B H b) (k : ∀ H1, Ex H H1 → tz D (σ.set i (some (.bl b))) H1) : tSeq (tAsg te (gName i)) tz D σ H := q_asg (ev_sB h) k
theorem q_setS (h : EvS E te σ B H S) (k : ∀ v x B1 H1, Stp B H B1 H1 → S x → E.R B1 v x → tz D (σ.set i (some v)) H1) : tSeq (tAsg te (gName i)) tz D σ H :=
  h H (Ex.refl _) _ fun v x B1 H1 s hS hR => k v x B1 H1 s hS hR
theorem q_setM {S : List α → Prop} (h : EvM E te σ B H S) (k : ∀ p vs xs B1 H1, Stp B H B1 H1 → H p = none → B1 p = none → H1 p = some (.lst vs) → S xs → Paired (E.R B1) vs xs → tz D (σ.set i (some (.ref p))) H1) : tSeq (tAsg te (gName i)) tz D σ H :=
  h H (Ex.refl _) _ fun p vs xs B1 H1 s hp bp hl hS hR => k p vs xs B1 H1 s hp bp hl hS hR
theorem q_retS (h : EvS E te σ B H S) (k : ∀ v x B1 H1, Stp B H B1 H1 → S x → E.R B1 v x → D.rt v H1) : tRet te D σ H :=
  h H (Ex.refl _) _ fun v x B1 H1 s hS hR => k v x B1 H1 s hS hR
theorem q_retM {S : List α → Prop} (h : EvM E te σ B H S) (k : ∀ p vs xs B1 H1, Stp B H B1 H1 → H p = none → B1 p = none → H1 p = some (.lst vs) → S xs → Paired (E.R B1) vs xs → D.rt (.ref p) H1) : tRet te D σ H :=
  h H (Ex.refl _) _ fun p vs xs B1 H1 s hp bp hl hS hR => k p vs xs B1 H1 s hp bp hl hS hR
theorem q_dropS (h : EvS E te σ B H S) (k : ∀ v x B1 H1, Stp B H B1 H1 → S x → E.R B1 v x → tz D σ H1) : tSeq (tDrop te) tz D σ H :=
  h H (Ex.refl _) _ fun v x B1 H1 s hS hR => k v x B1 H1 s hS hR
/-- xs.append(e) of one's own list -/
theorem c_app {l : Addr} {xs : List V} (c : Cell H0 B H l (.lst xs)) (s0 : Stp B0 H0 B H) (ho : σ[i]? = some (some (.ref l))) (hz : xs.length < 100000) (h : EvS E te σ B H S)
    (k : ∀ v x B1 H1, Stp B0 H0 B1 H1 → Ex B B1 → Cell H0 B1 H1 l (.lst (xs ++ [v])) → (∀ p o, p ≠ l → Cell H0 B H p o → Cell H0 B1 H1 p o) → S x → E.R B1 v x → D.nx σ H1) :
    tDrop (tBM K "list" rAppend (tVar i) (tCons te tNil)) D σ H :=
  ⟨.ref l, ho, Or.inl ⟨rfl, xs, SqL.of c.h⟩, h H (Ex.refl _) _ fun v x B1 H1 s hS hR => ⟨l, xs, v, rfl, rfl, s.eh _ _ c.h, sz_lt hz,
    k v x B1 _ ((c.up s).mut (s0.trans s)) s.eb (c.up s).same (fun p o ne d => (d.up s).other ne) hS hR⟩⟩
theorem q_app {l : Addr} {xs : List V} (c : Cell H0 B H l (.lst xs)) (s0 : Stp B0 H0 B H) (ho : σ[i]? = some (some (.ref l))) (hz : xs.length < 100000) (h : EvS E te σ B H S)
    (k : ∀ v x B1 H1, Stp B0 H0 B1 H1 → Ex B B1 → Cell H0 B1 H1 l (.lst (xs ++ [v])) → (∀ p o, p ≠ l → Cell H0 B H p o → Cell H0 B1 H1 p o) → S x → E.R B1 v x → tz D σ H1) :
    tSeq (tDrop (tBM K "list" rAppend (tVar i) (tCons te tNil))) tz D σ H := c_app (D := { D with nx := tz D }) c s0 ho hz h k
/-- a loop over a list: W tells what holds ahead of each turn -/
theorem c_forL {T : List α → Prop} (h : EvS (eL E) tl σ B H T) (W : List α → Hp → Nat → L2.St → Hp → Prop)
    (h0 : ∀ xs B1 H1, Stp B H B1 H1 → T xs → W xs B1 0 σ H1) (hb : ∀ xs B1 i σ' H', W xs B1 i σ' H' → Ex B1 H')
    (hs : ∀ xs B1 i x v σ' H', T xs → Ex B B1 → xs[i]? = some x → E.R B1 v x → W xs B1 i σ' H' → g v σ' H' fun σ2 H2 => tu { D with nx := W xs B1 (i + 1), ct := W xs B1 (i + 1), bk := D.nx } σ2 H2)
    (hd : ∀ xs B1 σ' H', T xs → Ex B B1 → W xs B1 xs.length σ' H' → D.nx σ' H') : tFor (iList K tl) g tu D σ H :=
  h H (Ex.refl _) _ fun v xs B1 H1 s hT ⟨a, ws, e1, h2, h3⟩ => ⟨a, e1, ⟨ws, SqL.of (s.bh _ _ h2)⟩, for_list (xs := ws) (W xs B1) (h0 xs B1 H1 s hT) (fun i σ' H' _ p => SqL.of (hb _ _ _ _ _ p _ _ h2)) (fun i w σ' H' hi p => by
    obtain ⟨x, hx, hr⟩ := pgetV h3 hi
    exact hs xs B1 i x w σ' H' hT s.eb hx hr p) (fun σ' H' p => hd xs B1 σ' H' hT s.eb (by rw [← pl h3]; exact p))⟩
theorem q_forL {T : List α → Prop} (h : EvS (eL E) tl σ B H T) (W : List α → Hp → Nat → L2.St → Hp → Prop)
    (h0 : ∀ xs B1 H1, Stp B H B1 H1 → T xs → W xs B1 0 σ H1) (hb : ∀ xs B1 i σ' H', W xs B1 i σ' H' → Ex B1 H')
    (hs : ∀ xs B1 i x v σ' H', T xs → Ex B B1 → xs[i]? = some x → E.R B1 v x → W xs B1 i σ' H' → g v σ' H' fun σ2 H2 => tu { D with nx := W xs B1 (i + 1), ct := W xs B1 (i + 1), bk := tz D } σ2 H2)
    (hd : ∀ xs B1 σ' H', T xs → Ex B B1 → W xs B1 xs.length σ' H' → tz D σ' H') : tSeq (tFor (iList K tl) g tu) tz D σ H :=
  c_forL (D := { D with nx := tz D }) h W h0 hb hs hd
/-- over a list that B knows -/
theorem c_forE {xs : List α} (x0 : Ex B H) (h : ∃ v, Ev tl σ H v ∧ (eL E).R B v xs) (W : Nat → L2.St → Hp → Prop)
    (h0 : ∀ H1, Ex H H1 → W 0 σ H1) (hb : ∀ i σ' H', W i σ' H' → Ex B H')
    (hs : ∀ i x v σ' H', xs[i]? = some x → E.R B v x → W i σ' H' → g v σ' H' fun σ2 H2 => tu { D with nx := W (i + 1), ct := W (i + 1), bk := D.nx } σ2 H2)
    (hd : ∀ σ' H', W xs.length σ' H' → D.nx σ' H') : tFor (iList K tl) g tu D σ H := by
  obtain ⟨v, hv, a, ws, e1, h2, h3⟩ := h
  exact hv H (Ex.refl _) _ fun H1 e => ⟨a, e1, ⟨ws, SqL.of (e _ _ (x0 _ _ h2))⟩, for_list (xs := ws) W (h0 H1 e) (fun i σ' H' _ p => SqL.of (hb _ _ _ p _ _ h2)) (fun i w σ' H' hi p => by
    obtain ⟨x, hx, hr⟩ := pgetV h3 hi
    exact hs i x w σ' H' hx hr p) (fun σ' H' p => hd σ' H' (by rw [← pl h3]; exact p))⟩
theorem q_forE {xs : List α} (x0 : Ex B H) (h : ∃ v, Ev tl σ H v ∧ (eL E).R B v xs) (W : Nat → L2.St → Hp → Prop)
    (h0 : ∀ H1, Ex H H1 → W 0 σ H1) (hb : ∀ i σ' H', W i σ' H' → Ex B H')
    (hs : ∀ i x v σ' H', xs[i]? = some x → E.R B v x → W i σ' H' → g v σ' H' fun σ2 H2 => tu { D with nx := W (i + 1), ct := W (i + 1), bk := tz D } σ2 H2)
    (hd : ∀ σ' H', W xs.length σ' H' → tz D σ' H') : tSeq (tFor (iList K tl) g tu) tz D σ H :=
  c_forE (D := { D with nx := tz D }) x0 h W h0 hb hs hd
theorem c_forTE {xs : List α} (x0 : Ex B H) (h : ∃ v, Ev tl σ H v ∧ (eT E).R B v xs) (W : Nat → L2.St → Hp → Prop)
    (h0 : ∀ H1, Ex H H1 → W 0 σ H1) (hb : ∀ i σ' H', W i σ' H' → Ex B H')
    (hs : ∀ i x v σ' H', xs[i]? = some x → E.R B v x → W i σ' H' → g v σ' H' fun σ2 H2 => tu { D with nx := W (i + 1), ct := W (i + 1), bk := D.nx } σ2 H2)
    (hd : ∀ σ' H', W xs.length σ' H' → D.nx σ' H') : tFor (iTup K tl) g tu D σ H := by
  obtain ⟨v, hv, a, ws, e1, h2, h3⟩ := h
  exact hv H (Ex.refl _) _ fun H1 e => ⟨a, e1, ⟨ws, SqT.of (e _ _ (x0 _ _ h2))⟩, for_tup (xs := ws) W (h0 H1 e) (fun i σ' H' _ p => SqT.of (hb _ _ _ p _ _ h2)) (fun i w σ' H' hi p => by
    obtain ⟨x, hx, hr⟩ := pgetV h3 hi
    exact hs i x w σ' H' hx hr p) (fun σ' H' p => hd σ' H' (by rw [← pl h3]; exact p))⟩
/-- range(n) -/
theorem c_forR {n : Int} {j : Nat} (h : EvE eI te σ B H n) (hn : -100000 ≤ n ∧ n ≤ 100000) (W : Nat → L2.St → Hp → Prop)
    (h0 : ∀ H1, Ex H H1 → W 0 σ H1) (hs : ∀ (i : Nat) σ' H', (i : Int) < n → W i σ' H' → tu { D with nx := W (i + 1), ct := W (i + 1), bk := D.nx } (σ'.set j (some (.int (i : Int)))) H')
    (hd : ∀ σ' H', W n.toNat σ' H' → D.nx σ' H') : tFor (iRng1 (tCons te tNil)) (gName j) tu D σ H :=
  ev_sI h H (Ex.refl H) _ fun H1 e => ⟨n, rfl, by omega, by omega, for_range (lo := 0) (n := n.toNat) W (h0 H1 e) (fun i σ' H' hi p => by
    have e0 : (0 : Int) + (i : Int) = (i : Int) := Int.zero_add _
    show tu { D with nx := W (i + 1), ct := W (i + 1), bk := D.nx } (σ'.set j (some (.int ((0 : Int) + (i : Int))))) H'
    rw [e0]
    exact hs i σ' H' (by omega) p) hd⟩
theorem q_forR {n : Int} {j : Nat} (h : EvE eI te σ B H n) (hn : -100000 ≤ n ∧ n ≤ 100000) (W : Nat → L2.St → Hp → Prop)
    (h0 : ∀ H1, Ex H H1 → W 0 σ H1) (hs : ∀ (i : Nat) σ' H', (i : Int) < n → W i σ' H' → tu { D with nx := W (i + 1), ct := W (i + 1), bk := tz D } (σ'.set j (some (.int (i : Int)))) H')
    (hd : ∀ σ' H', W n.toNat σ' H' → tz D σ' H') : tSeq (tFor (iRng1 (tCons te tNil)) (gName j) tu) tz D σ H :=
  c_forR (D := { D with nx := tz D }) h hn W h0 hs hd
theorem c_forR2 {lo n : Int} {j : Nat} (h1 : EvE eI ta σ B H lo) (h : EvE eI te σ B H n) (hn : 0 ≤ lo ∧ lo ≤ 100000 ∧ -100000 ≤ n ∧ n ≤ 100000) (W : Nat → L2.St → Hp → Prop)
    (h0 : ∀ H1, Ex H H1 → W 0 σ H1) (hs : ∀ (i : Nat) σ' H', lo + (i : Int) < n → W i σ' H' → tu { D with nx := W (i + 1), ct := W (i + 1), bk := D.nx } (σ'.set j (some (.int (lo + (i : Int))))) H')
    (hd : ∀ σ' H', W (n - lo).toNat σ' H' → D.nx σ' H') : tFor (iRng2 (tCons ta (tCons te tNil))) (gName j) tu D σ H :=
  s_forR2 (ea_cons (ev_sI h1) (ea_cons (ev_sI h) ea_nil)) hn W h0 hs hd
theorem q_forR2' {lo n : Int} {j : Nat} (h1 : EvE eI ta σ B H lo) (h : EvE eI te σ B H n) (hn : 0 ≤ lo ∧ lo ≤ 100000 ∧ -100000 ≤ n ∧ n ≤ 100000) (W : Nat → L2.St → Hp → Prop)
    (h0 : ∀ H1, Ex H H1 → W 0 σ H1) (hs : ∀ (i : Nat) σ' H', lo + (i : Int) < n → W i σ' H' → tu { D with nx := W (i + 1), ct := W (i + 1), bk := tz D } (σ'.set j (some (.int (lo + (i : Int))))) H')
    (hd : ∀ σ' H', W (n - lo).toNat σ' H' → tz D σ' H') : tSeq (tFor (iRng2 (tCons ta (tCons te tNil))) (gName j) tu) tz D σ H :=
  c_forR2 (D := { D with nx := tz D }) h1 h hn W h0 hs hd
/-- enumerate: each turn a new pair -/
theorem for_enum {a : Addr} {xs : List V} {g : TG} {tb : TS} {D : Ends} {σ : L2.St} {H : Hp} (Pv : Nat → L2.St → Hp → Prop) (h0 : Pv 0 σ H) (hl : ∀ i σ H, i ≤ xs.length → Pv i σ H → SqL K H a xs)
    (hs : ∀ i x σ H p, xs[i]? = some x → Pv i σ H → H p = none → g (.ref p) σ (upd H p (.tup [.int (i : Nat), x])) fun σ2 H2 => tb { D with nx := Pv (i + 1), ct := Pv (i + 1), bk := D.nx } σ2 H2) (hd : ∀ σ H, Pv xs.length σ H → D.nx σ H) :
    ∃ W : Nat → Nat → L2.St → Hp → Prop, (∃ m, W 0 m σ H) ∧ ∀ i m σ H, W i m σ H →
      ((Ite K a).stop i H ∧ D.nx σ H) ∨ ((Ite K a).go i H ∧ ∃ N : L2.St → Hp → Prop, (∀ σ' H', N σ' H' → ∃ m', m' < m ∧ W (i + 1) m' σ' H') ∧ ∀ x H', (Ite K a).yld i H x H' → g x σ H' fun σ2 H2 => tb { D with nx := N, ct := N, bk := D.nx } σ2 H2) := by
  refine ⟨fun i m σ H => m = xs.length - i ∧ i ≤ xs.length ∧ Pv i σ H, ⟨xs.length, by simp, Nat.zero_le _, h0⟩, ?_⟩
  rintro i m σ H ⟨rfl, hi, p⟩
  have q := hl i σ H hi p
  by_cases hlt : i < xs.length
  · refine .inr ⟨⟨xs, xs[i], q, by simp [hlt]⟩, Pv (i + 1), fun σ' H' p' => ⟨xs.length - (i + 1), by omega, rfl, hlt, p'⟩, fun x H' y => ?_⟩
    obtain ⟨T, z, e1, hT, e2, y⟩ := y
    subst e1
    subst e2
    exact hs i z σ H T (y xs q) p hT
  · have e : i = xs.length := by omega
    subst e
    exact .inl ⟨⟨xs, q, Nat.le_refl _⟩, hd σ H p⟩
theorem c_forEn {xs : List α} {j l : Nat} (x0 : Ex B H) (h : ∃ v, Ev tl σ H v ∧ (eL E).R B v xs) (W : Nat → L2.St → Hp → Prop)
    (h0 : ∀ H1, Ex H H1 → W 0 σ H1) (hb : ∀ i σ' H', W i σ' H' → Ex B H')
    (hs : ∀ i x v σ' H' H2, xs[i]? = some x → E.R B v x → W i σ' H' → Ex H' H2 → tu { D with nx := W (i + 1), ct := W (i + 1), bk := D.nx } ((σ'.set j (some (.int (i : Int)))).set l (some v)) H2)
    (hd : ∀ σ' H', W xs.length σ' H' → D.nx σ' H') : tFor (iEnum K (tCons tl tNil)) (gTup K 2 (gCons (gName j) (gCons (gName l) gNil))) tu D σ H := by
  obtain ⟨v, hv, a, ws, e1, h2, h3⟩ := h
  exact hv H (Ex.refl _) _ fun H1 e => ⟨a, ws, by rw [e1], SqL.of (e _ _ (x0 _ _ h2)), for_enum (xs := ws) W (h0 H1 e) (fun i σ' H' _ p => SqL.of (hb _ _ _ p _ _ h2)) (fun i w σ' H' p hi hP hp => by
    obtain ⟨x, hx, hr⟩ := pgetV h3 hi
    exact ⟨p, _, rfl, SqT.of upd_same, rfl, _, _, rfl, _, _, rfl, rfl, hs i x w σ' H' _ hx hr hP (Ex.new hp)⟩) (fun σ' H' p => hd σ' H' (by rw [← pl h3]; exact p))⟩
theorem q_forEn {xs : List α} {j l : Nat} (x0 : Ex B H) (h : ∃ v, Ev tl σ H v ∧ (eL E).R B v xs) (W : Nat → L2.St → Hp → Prop)
    (h0 : ∀ H1, Ex H H1 → W 0 σ H1) (hb : ∀ i σ' H', W i σ' H' → Ex B H')
    (hs : ∀ i x v σ' H' H2, xs[i]? = some x → E.R B v x → W i σ' H' → Ex H' H2 → tu { D with nx := W (i + 1), ct := W (i + 1), bk := tz D } ((σ'.set j (some (.int (i : Int)))).set l (some v)) H2)
    (hd : ∀ σ' H', W xs.length σ' H' → tz D σ' H') : tSeq (tFor (iEnum K (tCons tl tNil)) (gTup K 2 (gCons (gName j) (gCons (gName l) gNil))) tu) tz D σ H :=
  c_forEn (D := { D with nx := tz D }) x0 h W h0 hb hs hd

/-! ### dicts of one's own: keys that are ints -/
theorem q_dnew (s0 : Stp B0 H0 B H) (k : ∀ p H1, H p = none → Ex H H1 → Stp B0 H0 B H1 → Cell H0 B H1 p (.dK []) → tz D (σ.set i (some (.ref p))) H1) : tSeq (tAsg tDNewK (gName i)) tz D σ H :=
  fun p hp => k p _ hp (Ex.new hp) (s0.goH (Ex.new hp)) ⟨fresh_back s0.eh hp, fresh_back s0.bh hp, upd_same⟩
def addK (ks : List Int) (x : Int) : List Int := if x ∈ ks then ks else ks ++ [x]
theorem keys_put {x : Int} {v : V} {kvs : List (Key × V)} {ks : List Int} (h : kvs.map (·.1) = ks.map Sum.inl) : (putK kvs (Sum.inl x) v).map (·.1) = (addK ks x).map Sum.inl := by
  unfold putK addK
  rw [valV_any, val_keys h]
  by_cases hx : x ∈ ks
  · rw [if_pos (decide_eq_true hx), if_pos hx, List.map_map, ← h]
    refine List.map_congr_left fun p _ => ?_
    show (if p.1 = Sum.inl x then (p.1, v) else p).1 = p.1
    split <;> rfl
  · rw [if_neg (by rw [decide_eq_false hx]; decide), if_neg hx, List.map_append, List.map_append, h]
    rfl
theorem c_dput {m : Addr} {kvs : List (Key × V)} {ks : List Int} {x : Int} {v : V} (c : Cell H0 B H m (.dK kvs)) (hk : kvs.map (·.1) = ks.map Sum.inl) (s0 : Stp B0 H0 B H) (hz : kvs.length < 100000)
    (hv : Ev te σ H v) (ho : σ[i]? = some (some (.ref m))) (hx : EvE eI ta σ B H x)
    (k : ∀ H1 kvs', Stp B0 H0 B H1 → Cell H0 B H1 m (.dK kvs') → kvs'.map (·.1) = (addK ks x).map Sum.inl → (∀ p o, p ≠ m → Cell H0 B H p o → Cell H0 B H1 p o) → D.nx σ H1) :
    sDPut (tVar i) ta te D σ H :=
  hv H (Ex.refl _) _ fun H1 e1 => ⟨.ref m, ho, ev_sI hx H1 e1 _ fun H2 e2 => ⟨m, _, rfl, DPut.k (k := Sum.inl x) (e2 _ _ (e1 _ _ c.h)) (sz_lt hz), by
    have e := e1.trans e2
    exact k _ _ ((c.go e).mut (s0.goH e)) (c.go e).same (keys_put hk) (fun p o ne d => (d.go e).other ne)⟩⟩
theorem q_dput {m : Addr} {kvs : List (Key × V)} {ks : List Int} {x : Int} {v : V} (c : Cell H0 B H m (.dK kvs)) (hk : kvs.map (·.1) = ks.map Sum.inl) (s0 : Stp B0 H0 B H) (hz : kvs.length < 100000)
    (hv : Ev te σ H v) (ho : σ[i]? = some (some (.ref m))) (hx : EvE eI ta σ B H x)
    (k : ∀ H1 kvs', Stp B0 H0 B H1 → Cell H0 B H1 m (.dK kvs') → kvs'.map (·.1) = (addK ks x).map Sum.inl → (∀ p o, p ≠ m → Cell H0 B H p o → Cell H0 B H1 p o) → tz D σ H1) :
    tSeq (sDPut (tVar i) ta te) tz D σ H := c_dput (D := { D with nx := tz D }) c hk s0 hz hv ho hx k
/-- {k: v} -/
theorem q_disp1 {x : Int} {v : V} (s0 : Stp B0 H0 B H) (hx : EvE eI ta σ B H x) (hv : Ev te σ H v) (k : ∀ p H1, H p = none → Ex H H1 → Stp B0 H0 B H1 → Cell H0 B H1 p (.dK [(Sum.inl x, v)]) → tz D (σ.set i (some (.ref p))) H1) :
    tSeq (tAsg (tDisp [(ta, te)]) (gName i)) tz D σ H := fun p hp => ev_sI hx _ (Ex.new hp) _ fun H1 e1 => hv H1 ((Ex.new hp).trans e1) _ fun H2 e2 =>
  ⟨e2 _ _ (e1 _ _ upd_same), [(Sum.inl x, v)], rfl, Nat.succ_le_succ (Nat.zero_le _), by
    have c : Cell H0 B H2 p (.dK []) := ⟨fresh_back s0.eh hp, fresh_back s0.bh hp, e2 _ _ (e1 _ _ upd_same)⟩
    have e : Ex H H2 := ((Ex.new hp).trans e1).trans e2
    exact k p _ hp (Ex.mut e hp) (c.mut (s0.goH e)) c.same⟩

/-! ### lists of one's own -/
/-- x = xs.pop() -/
theorem q_pop {l : Addr} {xs : List V} {y : V} {j : Nat} (c : Cell H0 B H l (.lst (xs ++ [y]))) (s0 : Stp B0 H0 B H) (ho : σ[i]? = some (some (.ref l)))
    (k : ∀ H1, Stp B0 H0 B H1 → Cell H0 B H1 l (.lst xs) → (∀ p o, p ≠ l → Cell H0 B H p o → Cell H0 B H1 p o) → tz D (σ.set j (some y)) H1) :
    tSeq (tAsg (tBM0 K "list" rPop (tVar i)) (gName j)) tz D σ H :=
  ⟨.ref l, ho, Or.inl ⟨rfl, _, SqL.of c.h⟩, l, xs ++ [y], y, rfl, rfl, c.h, by simp, by
    have e : (xs ++ [y]).dropLast = xs := by simp
    rw [e]
    exact k _ (c.mut s0) c.same (fun p o ne d => d.other ne)⟩
/-- xs[j] = e -/
theorem c_setL {l : Addr} {xs : List V} {j : Nat} {v : V} (c : Cell H0 B H l (.lst xs)) (s0 : Stp B0 H0 B H) (hv : Ev te σ H v) (ho : σ[i]? = some (some (.ref l))) (hj : EvE eI tb σ B H (j : Int)) (hz : j < xs.length)
    (k : ∀ H1, Stp B0 H0 B H1 → Cell H0 B H1 l (.lst (xs.set j v)) → (∀ p o, p ≠ l → Cell H0 B H p o → Cell H0 B H1 p o) → D.nx σ H1) : tAsg te (gSub (tVar i) tb rSetL) D σ H :=
  s_setL c.h hv (ev_var ho) (ev_sI hj) hz fun H1 e => k _ ((c.go e).mut (s0.goH e)) (c.go e).same (fun p o ne d => (d.go e).other ne)
theorem q_setL' {l : Addr} {xs : List V} {j : Nat} {v : V} (c : Cell H0 B H l (.lst xs)) (s0 : Stp B0 H0 B H) (hv : Ev te σ H v) (ho : σ[i]? = some (some (.ref l))) (hj : EvE eI tb σ B H (j : Int)) (hz : j < xs.length)
    (k : ∀ H1, Stp B0 H0 B H1 → Cell H0 B H1 l (.lst (xs.set j v)) → (∀ p o, p ≠ l → Cell H0 B H p o → Cell H0 B H1 p o) → tz D σ H1) : tSeq (tAsg te (gSub (tVar i) tb rSetL)) tz D σ H :=
  c_setL (D := { D with nx := tz D }) c s0 hv ho hj hz k
theorem c_rev {l : Addr} {xs : List V} (c : Cell H0 B H l (.lst xs)) (s0 : Stp B0 H0 B H) (ho : σ[i]? = some (some (.ref l)))
    (k : ∀ H1, Stp B0 H0 B H1 → Cell H0 B H1 l (.lst xs.reverse) → (∀ p o, p ≠ l → Cell H0 B H p o → Cell H0 B H1 p o) → D.nx σ H1) : tDrop (tBM0 K "list" rReverse (tVar i)) D σ H :=
  ⟨.ref l, ho, Or.inl ⟨rfl, _, SqL.of c.h⟩, l, xs, rfl, rfl, c.h, k _ (c.mut s0) c.same (fun p o ne d => d.other ne)⟩
theorem c_clear {l : Addr} {xs : List V} (c : Cell H0 B H l (.lst xs)) (s0 : Stp B0 H0 B H) (ho : σ[i]? = some (some (.ref l)))
    (k : ∀ H1, Stp B0 H0 B H1 → Cell H0 B H1 l (.lst []) → (∀ p o, p ≠ l → Cell H0 B H p o → Cell H0 B H1 p o) → D.nx σ H1) : tDrop (tBM0 K "list" rClear (tVar i)) D σ H :=
  ⟨.ref l, ho, Or.inl ⟨rfl, _, SqL.of c.h⟩, l, xs, rfl, rfl, c.h, k _ (c.mut s0) c.same (fun p o ne d => d.other ne)⟩
/-- a list of one's own, read -/
theorem cell_L {l : Addr} {vs : List V} {xs : List α} {C : Hp} (c : Cell H0 B H l (.lst vs)) (hp : Paired (E.R H) vs xs) : (eL E).R H (.ref l) xs := ⟨l, vs, rfl, c.h, hp⟩
theorem cell_D {m : Addr} {kvs : List (Key × V)} {ks : List Int} (c : Cell H0 B H m (.dK kvs)) (hk : kvs.map (·.1) = ks.map Sum.inl) : eD.R H (.ref m) ks := ⟨m, kvs, rfl, c.h, hk⟩
/-- a new list of one's own becomes known -/
theorem cell_out {l : Addr} {vs : List V} {xs : List α} (c : Cell H0 B H l (.lst vs)) (s0 : Stp B0 H0 B H) (hp : Paired (E.R B) vs xs) : Stp B0 H0 (upd B l (.lst vs)) H ∧ (eL E).R (upd B l (.lst vs)) (.ref l) xs :=
  ⟨⟨s0.eb.trans (Ex.new c.b), s0.eh, fun a u q => by
    by_cases z : a = l
    · subst z
      rw [upd_same] at q
      cases q
      exact c.h
    · rw [upd_ne z] at q
      exact s0.bh a u q, fun a u q => by
    by_cases z : a = l
    · subst z
      exact .inr c.n
    · rw [upd_ne z] at q
      exact s0.nw a u q⟩, l, vs, rfl, upd_same, E.ups (Ex.new c.b) hp⟩
theorem cell_outD {m : Addr} {kvs : List (Key × V)} {ks : List Int} (c : Cell H0 B H m (.dK kvs)) (s0 : Stp B0 H0 B H) (hk : kvs.map (·.1) = ks.map Sum.inl) : Stp B0 H0 (upd B m (.dK kvs)) H ∧ eD.R (upd B m (.dK kvs)) (.ref m) ks :=
  ⟨⟨s0.eb.trans (Ex.new c.b), s0.eh, fun a u q => by
    by_cases z : a = m
    · subst z
      rw [upd_same] at q
      cases q
      exact c.h
    · rw [upd_ne z] at q
      exact s0.bh a u q, fun a u q => by
    by_cases z : a = m
    · subst z
      exact .inr c.n
    · rw [upd_ne z] at q
      exact s0.nw a u q⟩, m, kvs, rfl, upd_same, hk⟩
end
end RR
namespace RR
open PySem L2 Evl PyProof.Rows

/-! ### defs -/
def FunAt (K : PySem.W.Frag) (mg : Str → Option Value) (x : Str) (st : Stmt) : Prop := ∃ f fd, Fun K x x st f fd ∧ mg x = some (.ref f)
def DefOk (P : Program) (w : World) (K : PySem.W.Frag) (mg : Str → Option Value) (base : Heap) (k : Nat) (x : Str) (ps : List Str) (sp : Sp) : Prop :=
  ∃ f fd, FnOk P w K mg base CX0 k f fd ps sp ∧ mg x = some (.ref f) ∧ PySem.W.keepIn K (.ref f) = true ∧ Binds K fd ps []
def LenA (n : Nat) (A : Hp → List V → Prop) : Prop := ∀ B vs, A B vs → vs.length = n
theorem lenN : LenA 0 aN := fun _ _ h => by rw [show _ = [] from h]; rfl
theorem lenC {α : Type} {E : Enc α} {S : α → Prop} {A : Hp → List V → Prop} {n : Nat} (h : LenA n A) : LenA (n + 1) (aC E S A) := fun B vs ⟨v, x, r, e, _, _, ha⟩ => by
  rw [e, List.length_cons, h B r ha]
section
variable {P : Program} {w : World} {K : PySem.W.Frag} {mg : Str → Option Value} {base : Heap}
theorem mk_fn {ι β : Type} {A : ι → Hp → List V → Prop} {Pre : ι → Prop} {F : Enc β} {Post : ι → β → Prop} {x : Str} {st : Stmt} {N ps : List Str} {k : Nat} {f : Addr} {fd : FuncData} (F1 : Fun K x x st f fd) (S : FnScope N ps (defScope st))
    (hl : ∀ i, LenA ps.length (A i))
    (hbody : ∀ (cdv : Value) (A0 : Around) (outer : List Env) (s : Shared) (E : XK) (i : ι) (B H : Hp) (vs : List V) (Q : VK), Room k (A0.deeper (envOfC x (defScope st) s.heap.objs.size f cdv)) → Ex B H → A i B vs → Pre i →
      (∀ w y B2 H2, Stp B H B2 H2 → Post i y → F.R B2 w y → Q w H2) →
      ∃ t, PSs (cxOf CX0 P w K mg base N x (defScope st) f cdv A0 outer s H E).nox (defBody st) t ∧ t { nx := fun _ H' => Q .non H', rt := Q } (start N vs) H) : FnOk P w K mg base CX0 (k + 1) f fd ps (Spec A Pre F Post) := by
  refine F1.ok S (fun vs H Q E h => ?_) (fun cdv A0 outer s H vs Q E hr h => ?_)
  · obtain ⟨i, B, _, hA, _⟩ := h
    exact hl i B vs hA
  · obtain ⟨i, B, x0, hA, hp, q⟩ := h
    exact hbody cdv A0 outer s E i B H vs Q hr x0 hA hp q
theorem mk_def {ι β : Type} {A : ι → Hp → List V → Prop} {Pre : ι → Prop} {F : Enc β} {Post : ι → β → Prop} {x : Str} {st : Stmt} {N ps : List Str} {k : Nat} (F0 : FunAt K mg x st) (S : FnScope N ps (defScope st))
    (bi : ∀ (kV doc pm : Value) (an : Option Addr) (cdv ct : Value) (us : List Value), us.length = ps.length → bindArgs (PySem.W.fnOf x x (defArgs st) (defBody st) (defScope st) .none kV doc pm an cdv ct) ⟨us, []⟩ = pure (ps.zip us))
    (hl : ∀ i, LenA ps.length (A i))
    (hbody : ∀ (f : Addr) (cdv : Value) (A0 : Around) (outer : List Env) (s : Shared) (E : XK) (i : ι) (B H : Hp) (vs : List V) (Q : VK), Room k (A0.deeper (envOfC x (defScope st) s.heap.objs.size f cdv)) → Ex B H → A i B vs → Pre i →
      (∀ w y B2 H2, Stp B H B2 H2 → Post i y → F.R B2 w y → Q w H2) →
      ∃ t, PSs (cxOf CX0 P w K mg base N x (defScope st) f cdv A0 outer s H E).nox (defBody st) t ∧ t { nx := fun _ H' => Q .non H', rt := Q } (start N vs) H) : DefOk P w K mg base (k + 1) x ps (Spec A Pre F Post) := by
  obtain ⟨f, fd, F1, hm⟩ := F0
  refine ⟨f, fd, ?_, hm, F1.kp, F1.binds (ps := ps) bi⟩
  refine F1.ok S (fun vs H Q E h => ?_) (fun cdv A0 outer s H vs Q E hr h => ?_)
  · obtain ⟨i, B, _, hA, _⟩ := h
    exact hl i B vs hA
  · obtain ⟨i, B, x0, hA, hp, q⟩ := h
    exact hbody f cdv A0 outer s E i B H vs Q hr x0 hA hp q
theorem mk_defM {ι β : Type} {A : ι → Hp → List V → Prop} {Pre : ι → Prop} {F : Enc β} {Post : ι → List β → Prop} {x : Str} {st : Stmt} {N ps : List Str} {k : Nat} (F0 : FunAt K mg x st) (S : FnScope N ps (defScope st))
    (bi : ∀ (kV doc pm : Value) (an : Option Addr) (cdv ct : Value) (us : List Value), us.length = ps.length → bindArgs (PySem.W.fnOf x x (defArgs st) (defBody st) (defScope st) .none kV doc pm an cdv ct) ⟨us, []⟩ = pure (ps.zip us))
    (hl : ∀ i, LenA ps.length (A i))
    (hbody : ∀ (f : Addr) (cdv : Value) (A0 : Around) (outer : List Env) (s : Shared) (E : XK) (i : ι) (B H : Hp) (vs : List V) (Q : VK), Room k (A0.deeper (envOfC x (defScope st) s.heap.objs.size f cdv)) → Ex B H → A i B vs → Pre i →
      (∀ p ws ys B2 H2, Stp B H B2 H2 → H p = none → B2 p = none → H2 p = some (.lst ws) → Post i ys → Paired (F.R B2) ws ys → Q (.ref p) H2) →
      ∃ t, PSs (cxOf CX0 P w K mg base N x (defScope st) f cdv A0 outer s H E).nox (defBody st) t ∧ t { nx := fun _ H' => Q .non H', rt := Q } (start N vs) H) : DefOk P w K mg base (k + 1) x ps (SpecM A Pre F Post) := by
  obtain ⟨f, fd, F1, hm⟩ := F0
  refine ⟨f, fd, ?_, hm, F1.kp, F1.binds (ps := ps) bi⟩
  refine F1.ok S (fun vs H Q E h => ?_) (fun cdv A0 outer s H vs Q E hr h => ?_)
  · obtain ⟨i, B, _, hA, _⟩ := h
    exact hl i B vs hA
  · obtain ⟨i, B, x0, hA, hp, q⟩ := h
    exact hbody f cdv A0 outer s E i B H vs Q hr x0 hA hp q
end
section
variable {X : Cx} {k : Nat} {x : Str} {ps : List Str} {sp : Sp} {p pos : Pos} {e : Expr} {es : List Expr} {t : TA}
theorem pe_callD (D : DefOk X.prog X.w X.K X.mg X.base k x ps sp) (hr : Room k X.A) (hg : Gl X x) (ha : PA X (e :: es) t) (hdb : (x == ("__debug__" : Str)) = false := by decide)
    (he : starEach (e :: es) X.env = (false, eval e X.env) :: starEach es X.env := by rfl) (hpl : (backTo pos (starEach es X.env)).any (·.1) = false := by rfl) :
    PE X (.Call (.Name x p) (e :: es) [] pos) (tCall sp [] E0 t) := by
  obtain ⟨f, fd, G, hm, hk, hb⟩ := D
  exact pe_call G hr hg hm hk hb .nil pass0 ha hdb he hpl
end

/-! ### great ints -/
def CMulX (i j : Int) : Prop := i.natAbs.log2 + j.natAbs.log2 < 100000000
theorem CMulX.ok {i j : Int} (h : CMulX i j) : IntMulOk i j := by
  have b : ∀ x : Int, Builtin.Int.intBits x ≤ x.natAbs.log2 + 1 := fun x => by
    unfold Builtin.Int.intBits
    split <;> omega
  have h1 := b i
  have h2 := b j
  have h3 : i.natAbs.log2 + j.natAbs.log2 < 100000000 := h
  have e : bitsLine = 134217728 := by decide
  unfold IntMulOk
  intro z
  rw [Bool.and_eq_true] at z
  have z2 := z.2
  unfold Builtin.Int.intTooBig at z2
  have z3 := of_decide_eq_true z2
  rw [e] at z3
  omega
theorem op_mulX {X : Cx} : OpR X (binaryOp .Mult) (rI CMulX fun i j => .int (i * j)) := opI fun _ _ _ _ _ _ _ hc q => mul_int q hc.ok
/-- an int that is not too great -/
def Bd (n : Int) : Prop := n.natAbs.log2 ≤ 2000000
theorem log2_mono {a b : Nat} (h : a ≤ b) : a.log2 ≤ b.log2 := by
  by_cases h0 : a = 0
  · subst h0
    exact Nat.zero_le _
  · have hb : b ≠ 0 := by omega
    rw [Nat.le_log2 hb]
    exact Nat.le_trans (Nat.log2_self_le h0) h
theorem Bd.le {m n : Int} (h : Bd n) (e : m.natAbs ≤ n.natAbs) : Bd m := Nat.le_trans (log2_mono e) h
theorem Bd.div {n : Int} (h : Bd n) {j : Int} (hj : 0 < j) : Bd (n / j) := h.le (by
  have h1 := Int.emod_add_mul_ediv n j
  have h2 := Int.emod_nonneg n (show j ≠ 0 by omega)
  have h3 := Int.emod_lt_of_pos n hj
  by_cases hn : 0 ≤ n
  · have h4 : 0 ≤ n / j := Int.ediv_nonneg hn (by omega)
    have h5 : n / j ≤ n := Int.ediv_le_self j hn
    omega
  · have h4 : n / j < 0 := Int.ediv_neg_of_neg_of_pos (by omega) hj
    have h5 : n ≤ n / j := by
      have q : (n / j + 1) * j ≤ (n / j + 1) * 1 := Int.mul_le_mul_of_nonpos_left (by omega) (by omega)
      have q2 : (n / j + 1) * j = j * (n / j) + j := by rw [Int.add_mul, Int.one_mul, Int.mul_comm]
      omega
    omega)
theorem Bd.small {n : Int} (h : n.natAbs < 2 ^ 64) : Bd n := by
  unfold Bd
  by_cases h0 : n.natAbs = 0
  · rw [h0]
    decide
  · have := (Nat.log2_lt h0).mpr h
    omega
theorem Bd.bits {n : Int} (h : Builtin.Int.intBits n ≤ 1048576) : Bd n := by
  unfold Bd
  unfold Builtin.Int.intBits at h
  split at h
  · rename_i z
    have e : n.natAbs = 0 := by
      first
        | exact z
        | (simp at z; omega)
    rw [e]
    decide
  · omega
theorem Bd.mul {n j : Int} (h : Bd n) (hj : j.natAbs.log2 < 1000) : CMulX n j := by
  unfold CMulX
  unfold Bd at h
  omega

/-! ### the script: a list that H may only read -/
def eScr (K : PySem.W.Frag) : Enc (List Int) := ⟨fun H v ns => ∃ a, v = .ref a ∧ SqL K H a (ns.map V.int), fun e ⟨a, h1, h2⟩ => ⟨a, h1, ex_l e h2⟩⟩
section
variable {te ta tb tl : TE} {to1 to2 : TO} {σ : L2.St} {B H : Hp} {K : PySem.W.Frag}
theorem es_lenS {ns : List Int} (x0 : Ex B H) (h : EvE (eScr K) ta σ B H ns) : EvE eI (tCB (rLenS K) (tCons ta tNil)) σ B H (ns.length : Int) :=
  es_cb1 x0 h fun v B2 H2 x2 ⟨a, h1, h2⟩ Q k => ⟨a, _, by rw [h1], .inl (ex_l x2 h2), by rw [List.length_map]; exact k _ _ B2 H2 (Stp.refl x2) rfl rfl⟩
theorem es_ixS {ns : List Int} {i n : Int} (x0 : Ex B H) (ha : EvE (eScr K) ta σ B H ns) (hb : EvE eI tb σ B H i) (h0 : 0 ≤ i) (hx : ns[i.toNat]? = some n) : EvE eI (tOp (rIxL K) ta tb) σ B H n :=
  es_op x0 ha hb fun v w B2 H2 x2 ⟨a, h1, h2⟩ hw => ⟨.int n, rfl, fun Q q => ⟨a, _, i, .int n, h1, hw, ex_l x2 h2, atI_of h0 (by rw [List.getElem?_map, hx]; rfl), q⟩⟩
theorem em_slS {ns : List Int} {lo hi : Option Int} (x0 : Ex B H) (h : EvE (eScr K) te σ B H ns) (h1 : EvO to1 σ H lo) (h2 : EvO to2 σ H hi) : EvM eI (tSl (rSlL K) te to1 to2) σ B H (fun ys => ys = cutP ns lo hi) := fun H1 e Q k =>
  h H1 e _ fun v x' B2 H2 t hx hR => by
    cases hx
    obtain ⟨a, rfl, q2⟩ := hR
    refine h1 H2 (e.trans t.eh) _ fun H3 e3 => h2 H3 ((e.trans t.eh).trans e3) _ fun H4 e4 => ⟨a, _, rfl, ex_l ((t.bh.trans e3).trans e4) q2, fun p hp => ?_⟩
    have s := t.goH (e3.trans e4)
    refine k p _ _ B2 _ (s.goH (Ex.new hp)) (fresh_back s.eh hp) (fresh_back s.bh hp) upd_same rfl (pcut lo hi (pI' (H := B2) ns))
/-- the cell of the script at k, or nought -/
def cellM (ns : List Int) (k : Int) : Int := if k < (ns.length : Int) then ns.getD k.toNat 0 else 0
theorem cellM_bd {ns : List Int} (h : ∀ n ∈ ns, Bd n) (k : Int) : Bd (cellM ns k) := by
  unfold cellM
  split
  · rw [List.getD_eq_getElem?_getD]
    cases e : ns[k.toNat]? with
    | none => exact Bd.small (by decide)
    | some n => exact h n (List.mem_of_getElem? e)
  · exact Bd.small (by decide)
end
theorem cutP_mem {α : Type} {xs : List α} {lo hi : Option Int} {x : α} (h : x ∈ cutP xs lo hi) : x ∈ xs := by
  unfold cutP at h
  exact List.mem_of_mem_drop (List.mem_of_mem_take h)
theorem cutP_len {α : Type} (xs : List α) (lo hi : Option Int) : (cutP xs lo hi).length ≤ xs.length := by
  unfold cutP
  rw [List.length_take, List.length_drop]
  omega
/-! ### the numbers of those that a test takes -/
def sel {α : Type} (p : α → Bool) (xs : List α) (i : Nat) : List Int := ((List.range i).filter fun k => (xs[k]?).any p).map fun (k : Nat) => (k : Int)
theorem sel_zero {α : Type} (p : α → Bool) (xs : List α) : sel p xs 0 = [] := rfl
theorem sel_succ {α : Type} {p : α → Bool} {xs : List α} {i : Nat} {x : α} (h : xs[i]? = some x) : sel p xs (i + 1) = sel p xs i ++ if p x then [(i : Int)] else [] := by
  unfold sel
  rw [List.range_succ, List.filter_append, List.map_append]
  congr 1
  rw [List.filter_cons, h]
  cases hp : p x <;> simp [hp]
theorem sel_yes {α : Type} {p : α → Bool} {xs : List α} {i : Nat} {x : α} (h : xs[i]? = some x) (hp : p x = true) : sel p xs (i + 1) = sel p xs i ++ [(i : Int)] := by
  rw [sel_succ h, hp, if_pos rfl]
theorem sel_no {α : Type} {p : α → Bool} {xs : List α} {i : Nat} {x : α} (h : xs[i]? = some x) (hp : p x = false) : sel p xs (i + 1) = sel p xs i := by
  rw [sel_succ h, hp, if_neg Bool.false_ne_true, List.append_nil]
theorem sel_len {α : Type} (p : α → Bool) (xs : List α) (i : Nat) : (sel p xs i).length ≤ i := by
  unfold sel
  rw [List.length_map]
  have h := List.length_filter_le (fun k => (xs[k]?).any p) (List.range i)
  rw [List.length_range] at h
  exact h
theorem mem_sel {α : Type} {p : α → Bool} {xs : List α} {i : Nat} {k : Int} : k ∈ sel p xs i ↔ 0 ≤ k ∧ k < (i : Int) ∧ ∃ x, xs[k.toNat]? = some x ∧ p x = true := by
  unfold sel
  rw [List.mem_map]
  constructor
  · rintro ⟨a, ha, rfl⟩
    rw [List.mem_filter, List.mem_range] at ha
    obtain ⟨h1, h2⟩ := ha
    refine ⟨by omega, by omega, ?_⟩
    rw [Int.toNat_natCast]
    cases e : xs[a]? with
    | none =>
      rw [e] at h2
      cases h2
    | some x =>
      rw [e] at h2
      exact ⟨x, rfl, h2⟩
  · rintro ⟨h0, h1, x, hx, hp⟩
    refine ⟨k.toNat, ?_, by omega⟩
    rw [List.mem_filter, List.mem_range, hx]
    exact ⟨by omega, hp⟩
theorem map_snoc (xs : List Int) (x : Int) : (xs ++ [x]).map V.int = xs.map V.int ++ [V.int x] := by rw [List.map_append]; rfl
end RR
namespace RR
open PySem L2 Evl PyProof.Rows

/-! ### what stands for plain data -/
structure De {α : Type} (E : Enc α) (n : Nat) where
  d : α → PyData
  ok : ∀ {K : PySem.W.Frag} {H : Hp} {v : V} {x : α}, E.R H v x → Dp K H v (d x)
  lay : ∀ x, (d x).canLay0 = true
  dep : ∀ x, (d x).depth ≤ n
section
variable {α β γ : Type} {E : Enc α} {F : Enc β} {G : Enc γ} {n m l : Nat}
def deI : De eI 0 := ⟨fun i => .int i, fun h => by cases h; exact .int _, fun _ => rfl, fun _ => Nat.le_refl _⟩
def deB : De eB 0 := ⟨fun i => .bool i, fun h => by cases h; exact .bl _, fun _ => rfl, fun _ => Nat.le_refl _⟩
def dO : Option Int → PyData
  | none => .none
  | some i => .int i
def deO : De eO 0 := ⟨dO, fun {K H v x} h => by
  cases x with
  | none => cases h; exact .non
  | some i => cases h; exact .int _, fun x => by cases x <;> rfl, fun x => by cases x <;> exact Nat.le_refl _⟩
theorem dp_all (D : De E n) {K : PySem.W.Frag} {H : Hp} : ∀ {vs : List V} {xs : List α}, Paired (E.R H) vs xs → DpAll K H vs (xs.map D.d)
  | _, _, .nil => .nil
  | _, _, .cons r t => .cons (D.ok r) (dp_all D t)
theorem lay_all (D : De E n) : ∀ xs : List α, PyData.canLayAll0 (xs.map D.d) = true
  | [] => rfl
  | x :: r => by
    rw [List.map_cons]
    show (PyData.canLay0 (D.d x) && PyData.canLayAll0 (r.map D.d)) = true
    rw [D.lay x, lay_all D r]
    rfl
theorem dep_all (D : De E n) : ∀ xs : List α, PyData.depthAll (xs.map D.d) ≤ n
  | [] => Nat.zero_le _
  | x :: r => by
    rw [List.map_cons]
    show max (PyData.depth (D.d x)) (PyData.depthAll (r.map D.d)) ≤ n
    have h1 := D.dep x
    have h2 := dep_all D r
    omega
def deL (D : De E n) : De (eL E) (n + 1) := ⟨fun xs => .list (xs.map D.d), fun ⟨a, vs, h1, h2, h3⟩ => by
  subst h1
  exact .lst (SqL.of h2) (dp_all D h3), fun xs => lay_all D xs, fun xs => Nat.succ_le_succ (dep_all D xs)⟩
def deT (D : De E n) : De (eT E) (n + 1) := ⟨fun xs => .tuple (xs.map D.d), fun ⟨a, vs, h1, h2, h3⟩ => by
  subst h1
  exact .tup (SqT.of h2) (dp_all D h3), fun xs => lay_all D xs, fun xs => Nat.succ_le_succ (dep_all D xs)⟩
def de2 (D : De E n) (D' : De F m) : De (e2 E F) (n + m + 1) := ⟨fun x => .tuple [D.d x.1, D'.d x.2], fun ⟨a, u, w, h1, h2, h3, h4⟩ => by
  subst h1
  exact .tup (SqT.of h2) (.cons (D.ok h3) (.cons (D'.ok h4) .nil)), fun x => by
    show (PyData.canLay0 (D.d x.1) && (PyData.canLay0 (D'.d x.2) && true)) = true
    rw [D.lay, D'.lay]
    rfl, fun x => by
    show max (PyData.depth (D.d x.1)) (max (PyData.depth (D'.d x.2)) 0) + 1 ≤ n + m + 1
    have h1 := D.dep x.1
    have h2 := D'.dep x.2
    omega⟩
def de3 (D : De E n) (D' : De F m) (D'' : De G l) : De (e3 E F G) (n + m + l + 1) := ⟨fun x => .tuple [D.d x.1, D'.d x.2.1, D''.d x.2.2], fun ⟨a, u, w, z, h1, h2, h3, h4, h5⟩ => by
  subst h1
  exact .tup (SqT.of h2) (.cons (D.ok h3) (.cons (D'.ok h4) (.cons (D''.ok h5) .nil))), fun x => by
    show (PyData.canLay0 (D.d x.1) && (PyData.canLay0 (D'.d x.2.1) && (PyData.canLay0 (D''.d x.2.2) && true))) = true
    rw [D.lay, D'.lay, D''.lay]
    rfl, fun x => by
    show max (PyData.depth (D.d x.1)) (max (PyData.depth (D'.d x.2.1)) (max (PyData.depth (D''.d x.2.2)) 0)) + 1 ≤ n + m + l + 1
    have h1 := D.dep x.1
    have h2 := D'.dep x.2.1
    have h3 := D''.dep x.2.2
    omega⟩
abbrev deR : De eR 1 := de3 deI deI deI
theorem De.sh (D : De E n) (h : n ≤ 64) (x : α) : SeqAt.shaped (D.d x) = true := by
  show ((D.d x).canLay0 && decide ((D.d x).depth ≤ 64)) = true
  rw [D.lay x, decide_eq_true (Nat.le_trans (D.dep x) h)]
  rfl
theorem De.refl (D : De E n) (x : α) : PyData.eqv (D.d x) (D.d x) = true := SeqAt.eqv_refl _ (D.lay x)
end

section
variable {α β γ δ ε : Type} {E : Enc α} {F : Enc β} {G : Enc γ} {n m : Nat}
variable {te ta tb tc tl : TE} {tt : TT} {σ : L2.St} {B H B0 H0 B1 H1 : Hp} {S : α → Prop} {K : PySem.W.Frag} {D : Ends} {tu tw tz : TS} {i : Nat}
theorem es_eqD {x : α} {y : β} (De1 : De E n) (De2 : De F m) (hn : n ≤ 64) (hm : m ≤ 64) (x0 : Ex B H) (ha : EvE E ta σ B H x) (hb : EvE F tb σ B H y) : EvE eB (tOp (rEqD K) ta tb) σ B H (PyData.eqv (De1.d x) (De2.d y)) :=
  es_op x0 ha hb fun v w B2 H2 x2 hv hw => ⟨_, rfl, fun Q q => ⟨_, _, De1.ok (E.up x2 hv), De2.ok (F.up x2 hw), De1.sh hn x, De2.sh hm y, q⟩⟩
theorem es_neD {x : α} {y : β} (De1 : De E n) (De2 : De F m) (hn : n ≤ 64) (hm : m ≤ 64) (x0 : Ex B H) (ha : EvE E ta σ B H x) (hb : EvE F tb σ B H y) : EvE eB (tOp (rNeD K) ta tb) σ B H (!PyData.eqv (De1.d x) (De2.d y)) :=
  es_op x0 ha hb fun v w B2 H2 x2 hv hw => ⟨_, rfl, fun Q q => ⟨_, _, De1.ok (E.up x2 hv), De2.ok (F.up x2 hw), De1.sh hn x, De2.sh hm y, q⟩⟩
theorem es_eqSame {x : α} (De1 : De E n) (hn : n ≤ 64) (x0 : Ex B H) (ha : EvE E ta σ B H x) (hb : EvE E tb σ B H x) : EvE eB (tOp (rEqD K) ta tb) σ B H true := (es_eqD De1 De1 hn hn x0 ha hb).to (De1.refl x)
theorem es_neSame {x : α} (De1 : De E n) (hn : n ≤ 64) (x0 : Ex B H) (ha : EvE E ta σ B H x) (hb : EvE E tb σ B H x) : EvE eB (tOp (rNeD K) ta tb) σ B H false := (es_neD De1 De1 hn hn x0 ha hb).to (by rw [De1.refl x]; rfl)

/-! ### isinstance -/
theorem es_isi {c a : String} {b : Bool} (x0 : Ex B H) (ha : EvS E ta σ B H S) (ty : ∀ x v B2 H2, Ex B2 H2 → S x → E.R B2 v x → TyX K H2 v (.type a)) (h : kitB a c = some b) : EvE eB (tCB (rIsi K) (tCons ta (tCons (tC (.ty c)) tNil))) σ B H b := fun H1 e Q k =>
  ha H1 e _ fun v x B2 H2 t hS hR => ⟨v, .ty c, _, _, b, rfl, .ty c, ty x v B2 H2 t.bh hS hR, kit_ty h, k _ _ B2 H2 t rfl rfl⟩
theorem es_isiI {c : String} {b : Bool} {S : Int → Prop} (x0 : Ex B H) (ha : EvS eI ta σ B H S) (h : kitB "int" c = some b) : EvE eB (tCB (rIsi K) (tCons ta (tCons (tC (.ty c)) tNil))) σ B H b :=
  es_isi x0 ha (fun x v B2 H2 _ _ hR => by cases hR; exact .base (.int _)) h
theorem es_isiB {c : String} {b : Bool} {S : Bool → Prop} (x0 : Ex B H) (ha : EvS eB ta σ B H S) (h : kitB "bool" c = some b) : EvE eB (tCB (rIsi K) (tCons ta (tCons (tC (.ty c)) tNil))) σ B H b :=
  es_isi x0 ha (fun x v B2 H2 _ _ hR => by cases hR; exact .base (.bl _)) h
theorem es_isiN {c : String} {b : Bool} (x0 : Ex B H) (ha : EvE eO ta σ B H none) (h : kitB "NoneType" c = some b) : EvE eB (tCB (rIsi K) (tCons ta (tCons (tC (.ty c)) tNil))) σ B H b :=
  es_isi x0 ha (fun x v B2 H2 _ hS hR => by cases hS; cases hR; exact .base .non) h
theorem es_isiL {c : String} {b : Bool} {S : List α → Prop} (x0 : Ex B H) (ha : EvS (eL E) ta σ B H S) (h : kitB "list" c = some b) : EvE eB (tCB (rIsi K) (tCons ta (tCons (tC (.ty c)) tNil))) σ B H b :=
  es_isi x0 ha (fun x v B2 H2 x2 _ ⟨a, vs, h1, h2, _⟩ => by subst h1; exact .base (.lst (x2 _ _ h2))) h
theorem es_isiT {c : String} {b : Bool} {S : List α → Prop} (x0 : Ex B H) (ha : EvS (eT E) ta σ B H S) (h : kitB "tuple" c = some b) : EvE eB (tCB (rIsi K) (tCons ta (tCons (tC (.ty c)) tNil))) σ B H b :=
  es_isi x0 ha (fun x v B2 H2 x2 _ ⟨a, vs, h1, h2, _⟩ => by subst h1; exact .base (.tup (x2 _ _ h2))) h
theorem es_isi2 {c : String} {b : Bool} {S : α × β → Prop} (x0 : Ex B H) (ha : EvS (e2 E F) ta σ B H S) (h : kitB "tuple" c = some b) : EvE eB (tCB (rIsi K) (tCons ta (tCons (tC (.ty c)) tNil))) σ B H b :=
  es_isi x0 ha (fun x v B2 H2 x2 _ ⟨a, u, w, h1, h2, _⟩ => by subst h1; exact .base (.tup (x2 _ _ h2))) h
theorem es_isi3 {c : String} {b : Bool} {S : α × β × γ → Prop} (x0 : Ex B H) (ha : EvS (e3 E F G) ta σ B H S) (h : kitB "tuple" c = some b) : EvE eB (tCB (rIsi K) (tCons ta (tCons (tC (.ty c)) tNil))) σ B H b :=
  es_isi x0 ha (fun x v B2 H2 x2 _ ⟨a, u, w, z, h1, h2, _⟩ => by subst h1; exact .base (.tup (x2 _ _ h2))) h
theorem k_ii : kitB "int" "int" = some true := by decide +kernel
theorem k_ib : kitB "int" "bool" = some false := by decide +kernel
theorem k_ll : kitB "list" "list" = some true := by decide +kernel
theorem k_tt : kitB "tuple" "tuple" = some true := by decide +kernel
theorem k_bb : kitB "bool" "bool" = some true := by decide +kernel
theorem k_bi : kitB "bool" "int" = some true := by decide +kernel
theorem k_ni : kitB "NoneType" "int" = some false := by decide +kernel
theorem k_nb : kitB "NoneType" "bool" = some false := by decide +kernel
theorem k_nl : kitB "NoneType" "list" = some false := by decide +kernel
/-- isinstance(x, int) and not isinstance(x, bool) of an int; the other way round -/
theorem et_whole {S : Int → Prop} (x0 : Ex B H) (ha : EvS eI ta σ B H S) (hb : EvS eI tb σ B H S) :
    EvT (tOr (tNot (tB (tCB (rIsi K) (tCons ta (tCons (tC (.ty "int")) tNil))))) (tB (tCB (rIsi K) (tCons tb (tCons (tC (.ty "bool")) tNil))))) σ H false :=
  et_or (et_not (et_sB (es_isiI x0 ha k_ii))) fun _ => et_sB (es_isiI x0 hb k_ib)

/-! ### ends, ifs -/
theorem c_ret {T : β → Prop} (s : Stp B0 H0 B H) (h : EvS F te σ B H T) (k : ∀ w y B2 H2, Stp B0 H0 B2 H2 → T y → F.R B2 w y → D.rt w H2) : tRet te D σ H := by
  exact h H (Ex.refl _) _ fun w y B2 H2 t hT hR => k w y B2 H2 (s.trans t) hT hR
theorem c_retM {T : List β → Prop} (s : Stp B0 H0 B H) (h : EvM F te σ B H T) (k : ∀ p ws ys B2 H2, Stp B0 H0 B2 H2 → H0 p = none → B2 p = none → H2 p = some (.lst ws) → T ys → Paired (F.R B2) ws ys → D.rt (.ref p) H2) : tRet te D σ H :=
  h H (Ex.refl _) _ fun p ws ys B2 H2 t hp bp hl hT hR => k p ws ys B2 H2 (s.trans t) (fresh_back s.eh hp) bp hl hT hR
theorem set_same {ξ : Type} {xs : List ξ} {i : Nat} {a : ξ} (h : xs[i]? = some a) : xs.set i a = xs := by
  obtain ⟨h1, h2⟩ := List.getElem?_eq_some_iff.mp h
  rw [← h2]
  exact List.set_getElem_self h1
/-- if c: x = e, an int -/
theorem q_ifSetI {b : Bool} {T : Int → Prop} (ht : EvT tt σ H b) (x0 : Ex B H) (h1 : b = true → EvS eI te σ B H T) (h2 : b = false → ∃ n, σ[i]? = some (some (.int n)) ∧ T n) (k : ∀ n B1 H1, Stp B H B1 H1 → T n → tz D (σ.set i (some (.int n))) H1) :
    tSeq (tIfS tt (tAsg te (gName i)) tNext) tz D σ H :=
  q_when ht (fun hb H1 e => (h1 hb).up (Stp.go x0 e) H1 (Ex.refl _) _ fun v n B1 H2 s hT hR => by
    cases hR
    exact k n B1 H2 ((Stp.go x0 e).trans s) hT) (fun hb H1 e => by
    obtain ⟨n, hn, hT⟩ := h2 hb
    have q := k n B H1 (Stp.go x0 e) hT
    rw [set_same hn] at q
    exact q)
/-- a list, a dict of one's own becomes known -/
theorem cell_pub {a : Addr} {vs : List V} {xs : List α} (c : Cell H0 B H a (.lst vs)) (s0 : Stp B0 H0 B H) (hp : Paired (E.R B) vs xs) :
    ∃ B1, Stp B0 H0 B1 H ∧ Ex B B1 ∧ (eL E).R B1 (.ref a) xs ∧ ∀ p o, p ≠ a → Cell H0 B H p o → Cell H0 B1 H p o := by
  obtain ⟨t, r⟩ := cell_out (E := E) c s0 hp
  exact ⟨_, t, Ex.new c.b, r, fun p o ne d => ⟨d.n, by rw [upd_ne ne]; exact d.b, d.h⟩⟩
theorem cell_pubD {a : Addr} {kvs : List (Key × V)} {ks : List Int} (c : Cell H0 B H a (.dK kvs)) (s0 : Stp B0 H0 B H) (hk : kvs.map (·.1) = ks.map Sum.inl) :
    ∃ B1, Stp B0 H0 B1 H ∧ Ex B B1 ∧ eD.R B1 (.ref a) ks ∧ ∀ p o, p ≠ a → Cell H0 B H p o → Cell H0 B1 H p o := by
  obtain ⟨t, r⟩ := cell_outD c s0 hk
  exact ⟨_, t, Ex.new c.b, r, fun p o ne d => ⟨d.n, by rw [upd_ne ne]; exact d.b, d.h⟩⟩
/-- an item of a list, any -/
theorem es_ixLM {xs : List α} {j : Int} (x0 : Ex B H) (ha : EvE (eL E) ta σ B H xs) (hb : EvE eI tb σ B H j) (h0 : 0 ≤ j) (h1 : j < (xs.length : Int)) : EvS E (tOp (rIxL K) ta tb) σ B H (fun x => x ∈ xs) := by
  have hj : j.toNat < xs.length := by omega
  refine (es_ixL (x := xs[j.toNat]) x0 ha hb h0 (List.getElem?_eq_getElem hj)).imp fun y hy => ?_
  subst hy
  exact List.getElem_mem hj
theorem pair_all {P : β → Prop} {R : α → β → Prop} (h : ∀ x y, R x y → P y) : ∀ {xs : List α} {ys : List β}, Paired R xs ys → ∀ y ∈ ys, P y
  | _, _, .nil, _, m => by cases m
  | _, _, .cons r t, y, m => by
    rcases List.mem_cons.mp m with e | m
    · subst e
      exact h _ _ r
    · exact pair_all h t y m
theorem pair_len {R : α → β → Prop} {xs : List α} {ys : List β} (h : Paired R xs ys) : ys.length = xs.length := (Paired.length h).symm
end
/-! ### s + d round m -/
theorem emod_add_lt {s d m : Int} (h0 : 0 ≤ s) (h1 : s < m) (h2 : 0 ≤ d) (h3 : d < m) : (s + d) % m = if s + d < m then s + d else s + d - m := by
  split
  · exact Int.emod_eq_of_lt (by omega) (by omega)
  · have e : (s + d) % m = (s + d - m) % m := by rw [Int.sub_emod_right]
    rw [e]
    exact Int.emod_eq_of_lt (by omega) (by omega)
/-- a road between two of so many places -/
def OkR (m : Int) (r : Road) : Prop := 0 ≤ r.1 ∧ r.1 < m ∧ 0 ≤ r.2.1 ∧ r.2.1 < m ∧ r.1 ≠ r.2.1 ∧ 0 ≤ r.2.2 ∧ r.2.2 < 10000000000000000000000000000000000000000
end RR
namespace RR
open PySem L2 Evl PyProof.Rows
def topS (i : Nat) : Stmt := PySem.Challenge.pw_rootroads_k01_roads_into_a_set.main.body.getD i (.Pass ⟨0, 0, 0, 0⟩)
abbrev s_into : Stmt := topS 1
abbrev N_into : List Str := ["roads", "group", "found", "number", "road"]
theorem sc_into : FnScope N_into ["roads", "group"] (defScope s_into) := ⟨rfl, rfl, rfl, by decide +kernel, rfl, by decide +kernel, by decide +kernel⟩
abbrev s__law_cell_at : Stmt := topS 3
abbrev N__law_cell_at : List Str := ["_law_script", "_law_k"]
theorem sc__law_cell_at : FnScope N__law_cell_at ["_law_script", "_law_k"] (defScope s__law_cell_at) := ⟨rfl, rfl, rfl, by decide +kernel, rfl, by decide +kernel, by decide +kernel⟩
abbrev s__law_mixed : Stmt := topS 4
abbrev N__law_mixed : List Str := ["_law_cell", "_law_k"]
theorem sc__law_mixed : FnScope N__law_mixed ["_law_cell", "_law_k"] (defScope s__law_mixed) := ⟨rfl, rfl, rfl, by decide +kernel, rfl, by decide +kernel, by decide +kernel⟩
abbrev s__law_cost : Stmt := topS 5
abbrev N__law_cost : List Str := ["_law_cell"]
theorem sc__law_cost : FnScope N__law_cost ["_law_cell"] (defScope s__law_cost) := ⟨rfl, rfl, rfl, by decide +kernel, rfl, by decide +kernel, by decide +kernel⟩
abbrev s__law_road : Stmt := topS 6
abbrev N__law_road : List Str := ["_law_cell", "_law_many", "_law_start", "_law_end"]
theorem sc__law_road : FnScope N__law_road ["_law_cell", "_law_many"] (defScope s__law_road) := ⟨rfl, rfl, rfl, by decide +kernel, rfl, by decide +kernel, by decide +kernel⟩
abbrev s_law : Stmt := topS 7
abbrev N_law : List Str := ["_law_script", "_law_many", "_law_roads", "_law_k", "_law_group", "_law_rest", "_law_place", "_law_handed", "_law_found", "_law_number", "_law_due", "_law_cell"]
theorem sc_law : FnScope N_law ["_law_script"] (defScope s_law) := ⟨rfl, rfl, rfl, by decide +kernel, rfl, by decide +kernel, by decide +kernel⟩
structure Txt (K : PySem.W.Frag) (mg : Str → Option Value) : Prop where
  b_bool : mg "bool" = none
  b_enumerate : mg "enumerate" = none
  b_int : mg "int" = none
  b_isinstance : mg "isinstance" = none
  b_len : mg "len" = none
  b_list : mg "list" = none
  b_range : mg "range" = none
  b_tuple : mg "tuple" = none
section
variable {P : Program} {w : World} {K : PySem.W.Frag} {mg : Str → Option Value} {base : Heap}

def comesIn (r : Road) (g : List Int) : Bool := decide (r.2.1 ∈ g) && !decide (r.1 ∈ g)
def intoM (rs : List Road) (g : List Int) : List Int := sel (fun r => comesIn r g) rs rs.length
abbrev sp_into : Sp := SpecM (ar2 (eL eR) (eT eI)) (fun i => i.1.length ≤ 100) eI (fun i y => y = intoM i.1 i.2)
theorem d_into (F0 : FunAt K mg "into" s_into) (T : Txt K mg)  : DefOk P w K mg base 1 "into" ["roads", "group"] sp_into := by
  refine mk_defM (k := 0) F0 sc_into (fun _ _ _ _ _ _ us hl => match us, hl with | [_, _], _ => rfl) (fun _ => (lenC (lenC lenN))) ?_
  intro f cdv A0 outer s E i B H vs Q hr x0 hA hp q
  obtain ⟨v0, _, _, rfl, rfl, h0, v1, _, _, rfl, rfl, h1, rfl⟩ := hA
  obtain ⟨y0, y1⟩ := i
  (try dsimp only at h0); (try dsimp only at h1); (try dsimp only at hp); (try dsimp only at q)
  refine ⟨_, (pss_cons (ps_set (i := 2) sc_into.nd rfl (by first | exact Or.inl rfl | exact Or.inr rfl) (pe_lst pa_nil))
      (pss_cons (ps_for PassesOwn.never rfl (pi_enum (by rfl) T.b_enumerate (pa_cons (pv 0) pa_nil)) (pg_tup rfl (pgs_cons (pg_name (i := 3) sc_into.nd rfl (by first | exact Or.inl rfl | exact Or.inr rfl)) (pgs_cons (pg_name (i := 4) sc_into.nd rfl (by first | exact Or.inl rfl | exact Or.inr rfl)) pgs_nil))) (pss_one (ps_if (pw_and (pt_cmpR op_in_seq (pe_ix ix_tup (pv 4) pe_int (fun _ _ => rfl)) (pv 1) (by rfl)) (pw_and1 (pt_cmpR op_notIn_seq (pe_ix ix_tup (pv 4) pe_int (fun _ _ => rfl)) (pv 1) (by rfl)))).pt (pss_one (ps_expr (pe_bm PySem.F.plainAttrs_list PySem.F.slot_list_append PySem.F.type_list_append mt_append (pv 2) (pa_cons (pv 3) pa_nil)))) pss_nil)))
      (pss_one (ps_ret (pv 2))))), ?_⟩
  have hz : y0.length ≤ 100 := hp
  refine q_setM (em_nil (E := eI) x0) fun l vs xs B1 H1 s1 nl bl hl hS hR => ?_
  cases hS
  cases hR
  have c1 : Cell H B1 H1 l (.lst []) := ⟨nl, bl, hl⟩
  refine q_forEn (E := eR) s1.bh ⟨v0, ev_var rfl, Enc.up _ s1.eb h0⟩ (fun i σ' H' => ∃ a b B', σ' = [some v0, some v1, some (.ref l), a, b] ∧ Stp B H B' H' ∧ Ex B1 B' ∧ Cell H B' H' l (.lst ((sel (fun r => comesIn r y1) y0 i).map V.int)))
    (fun H2 e => ⟨none, none, B1, rfl, s1.goH e, Ex.refl _, c1.go e⟩) (fun i σ' H' w => ?_) (fun i r v σ' H' H2 hi hr w e2 => ?_) (fun σ' H' w => ?_)
  · obtain ⟨a, b, B', _, s, eb, _⟩ := w
    exact eb.trans s.bh
  · obtain ⟨a, b, B', rfl, s, eb1, c⟩ := w
    have hi60 : i < 100 := by
      have q1 := (List.getElem?_eq_some_iff.mp hi).1
      omega
    have eb : Ex B B' := s.eb
    have s2 := s.goH e2
    have xz : Ex B' H2 := s2.bh
    have rz : eR.R B' v r := Enc.up _ eb1 hr
    refine s_when (et_and (et_sT (es_inT xz (es_31 xz (es_var xz rfl rz)) (es_var xz rfl (Enc.up _ eb h1)))) fun _ => (et_sT (es_ninT xz (es_30 xz (es_var xz rfl rz)) (es_var xz rfl (Enc.up _ eb h1))))) (fun hb H3 e3 => ?_) (fun hb H3 e3 => ?_)
    · have hc : comesIn r y1 = true := hb
      refine c_app (i := 2) ((c.go e2).go e3) (s2.goH e3) rfl ?_ (es_varI (i := 3) (xz.trans e3) rfl) fun w y B3 H4 s4 eb4 c4 _ hy hw => ?_
      · rw [List.length_map]
        have := sel_len (fun r => comesIn r y1) y0 i
        omega
      · cases hy
        cases hw
        refine ⟨_, _, B3, rfl, s4, eb1.trans eb4, ?_⟩
        rw [sel_yes hi hc, map_snoc]
        exact c4
    · have hc : comesIn r y1 = false := hb
      refine ⟨_, _, B', rfl, s2.goH e3, eb1, ?_⟩
      rw [sel_no hi hc]
      exact (c.go e2).go e3
  · obtain ⟨a, b, B', rfl, s, eb1, c⟩ := w
    refine s_ret (ev_var (v := .ref l) rfl) fun H2 e2 => ?_
    have c' := c.go e2
    exact q l _ _ B' H2 (s.goH e2) c'.n c'.b c'.h rfl (pI' _)

abbrev sp_cell (K : PySem.W.Frag) : Sp := Spec (ar2 (eScr K) eI) (fun i => 0 ≤ i.2) eI (fun i y => y = cellM i.1 i.2)
theorem d__law_cell_at (F0 : FunAt K mg "_law_cell_at" s__law_cell_at) (T : Txt K mg)  : DefOk P w K mg base 1 "_law_cell_at" ["_law_script", "_law_k"] (sp_cell K) := by
  refine mk_def (k := 0) F0 sc__law_cell_at (fun _ _ _ _ _ _ us hl => match us, hl with | [_, _], _ => rfl) (fun _ => (lenC (lenC lenN))) ?_
  intro f cdv A0 outer s E i B H vs Q hr x0 hA hp q
  obtain ⟨v0, _, _, rfl, rfl, h0, v1, _, _, rfl, rfl, h1, rfl⟩ := hA
  obtain ⟨y0, y1⟩ := i
  (try dsimp only at h0); (try dsimp only at h1); (try dsimp only at hp); (try dsimp only at q)
  refine ⟨_, (pss_cons (ps_if (pt_cmpR op_lt (pv 1) (pe_callB cl_len (by rfl) T.b_len (by decide +kernel) (pa_cons (pv 0) pa_nil)) (nomark _)) (pss_one (ps_ret (pe_ix ix_list (pv 0) (pv 1) (fun _ _ => rfl)))) pss_nil)
      (pss_one (ps_ret pe_int))), ?_⟩
  cases h1
  refine q_when (et_sT (es_opB x0 (es_varI (i := 1) x0 rfl) (es_lenS x0 (es_var x0 rfl h0)))) (fun hb H1 e => ?_) (fun hb H1 e => ?_)
  · have hlt : y1 < (y0.length : Int) := of_decide_eq_true hb
    have hn : y1.toNat < y0.length := by omega
    have xz := x0.trans e
    refine c_ret (Stp.go x0 e) (es_ixS xz (es_var xz rfl h0) (es_varI (i := 1) xz rfl) hp (List.getElem?_eq_getElem hn)) fun w y B2 H2 s hy hR => q w y B2 H2 s ?_ hR
    rw [hy]
    unfold cellM
    rw [if_pos hlt, List.getD_eq_getElem?_getD, List.getElem?_eq_getElem hn]
    rfl
  · have hlt : ¬ y1 < (y0.length : Int) := of_decide_eq_false hb
    refine c_ret (Stp.go x0 e) (es_int (x0.trans e)) fun w y B2 H2 s hy hR => q w y B2 H2 s ?_ hR
    rw [hy]
    unfold cellM
    rw [if_neg hlt]

def mixedM (c k : Int) : Int := (c * 16807 + k * k * 7919 + k * 48271 + 11) % 2147483647
theorem mixedM_b (c k : Int) : 0 ≤ mixedM c k ∧ mixedM c k < 2147483647 := ⟨Int.emod_nonneg _ (by decide), Int.emod_lt_of_pos _ (by decide)⟩
theorem mixedM_bd (c k : Int) : Bd (mixedM c k) := Bd.small (by have := mixedM_b c k; omega)
abbrev sp_mixed : Sp := Spec (ar2 eI eI) (fun i => -1000 ≤ i.2 ∧ i.2 ≤ 1000) eI (fun i y => y = mixedM i.1 i.2)
theorem d__law_mixed (F0 : FunAt K mg "_law_mixed" s__law_mixed) (T : Txt K mg)  : DefOk P w K mg base 1 "_law_mixed" ["_law_cell", "_law_k"] sp_mixed := by
  refine mk_def (k := 0) F0 sc__law_mixed (fun _ _ _ _ _ _ us hl => match us, hl with | [_, _], _ => rfl) (fun _ => (lenC (lenC lenN))) ?_
  intro f cdv A0 outer s E i B H vs Q hr x0 hA hp q
  obtain ⟨v0, _, _, rfl, rfl, h0, v1, _, _, rfl, rfl, h1, rfl⟩ := hA
  obtain ⟨y0, y1⟩ := i
  (try dsimp only at h0); (try dsimp only at h1); (try dsimp only at hp); (try dsimp only at q)
  refine ⟨_, (pss_one (ps_ret (pe_op op_mod (pe_op op_add (pe_op op_add (pe_op op_add (pe_op op_mul (pv 0) pe_int) (pe_op op_mul (pe_op op_mul (pv 1) (pv 1)) pe_int)) (pe_op op_mul (pv 1) pe_int)) pe_int) pe_int))), ?_⟩
  cases h0
  cases h1
  exact c_ret (Stp.refl x0) (es_opC x0 (es_opI x0 (es_opI x0 (es_opI x0 (es_opC x0 (es_varI x0 rfl) (es_int x0) (.inr ⟨by decide, by decide⟩)) (es_opC x0 (es_opC x0 (es_varI x0 rfl) (es_varI x0 rfl) (.inl ⟨by omega, by omega⟩)) (es_int x0) (.inr ⟨by decide, by decide⟩))) (es_opC x0 (es_varI x0 rfl) (es_int x0) (.inr ⟨by decide, by decide⟩))) (es_int x0)) (es_int x0) (by first | (show (0 : Int) < _; omega) | (show (0 : Int) < _; decide +kernel))) q

abbrev sp_cost : Sp := Spec (ar1 eI) (fun i => Bd i) eI (fun _ y => 0 ≤ y ∧ y < 10000000000000000000000000000000000000000)
theorem d__law_cost (F0 : FunAt K mg "_law_cost" s__law_cost) (T : Txt K mg)  : DefOk P w K mg base 1 "_law_cost" ["_law_cell"] sp_cost := by
  refine mk_def (k := 0) F0 sc__law_cost (fun _ _ _ _ _ _ us hl => match us, hl with | [_], _ => rfl) (fun _ => (lenC lenN)) ?_
  intro f cdv A0 outer s E i B H vs Q hr x0 hA hp q
  obtain ⟨v0, y0, _, rfl, rfl, h0, rfl⟩ := hA
  refine ⟨_, (pss_cons (ps_if (pt_cmpR op_eq (pe_op op_mod (pv 0) pe_int) pe_int (nomark _)) (pss_one (ps_ret (pe_op op_sub (pe_op op_sub (pe_op op_pow pe_int pe_int) pe_int) (pe_op op_mod (pe_op op_fdiv (pv 0) pe_int) pe_int)))) pss_nil)
      (pss_one (ps_ret (pe_ix ix_list (pe_lst (pa_cons (pe_op op_mod (pe_op op_fdiv (pv 0) pe_int) pe_int) (pa_cons (pe_op op_mod (pe_op op_fdiv (pv 0) pe_int) pe_int) (pa_cons (pe_op op_mod (pe_op op_mul (pe_op op_fdiv (pv 0) pe_int) pe_int) pe_int) (pa_cons (pe_op op_mod (pe_op op_mulX (pe_op op_fdiv (pv 0) pe_int) (pe_op op_pow pe_int pe_int)) (pe_op op_pow pe_int pe_int)) pa_nil))))) (pe_op op_mod (pv 0) pe_int) (fun _ _ => rfl))))), ?_⟩
  cases h0
  refine q_when (et_sT (es_eqI x0 (es_opC x0 (es_varI x0 rfl) (es_int x0) (by first | (show (0 : Int) < _; omega) | (show (0 : Int) < _; decide +kernel))) (es_int x0))) (fun hb H1 e => ?_) (fun hb H1 e => ?_)
  · refine c_ret (Stp.go x0 e) (es_opI (x0.trans e) (es_opI (x0.trans e) (es_opC (x0.trans e) (es_int (x0.trans e)) (es_int (x0.trans e)) (⟨by decide, by decide, by decide⟩)) (es_int (x0.trans e))) (es_opC (x0.trans e) (es_opC (x0.trans e) (es_varI (x0.trans e) rfl) (es_int (x0.trans e)) (⟨by omega, by omega⟩)) (es_int (x0.trans e)) (by first | (show (0 : Int) < _; omega) | (show (0 : Int) < _; decide +kernel)))) fun w y B2 H2 s hy hR => q w y B2 H2 s ?_ hR
    rw [hy]
    have h3 : (10 : Int) ^ (40 : Int).toNat = 10000000000000000000000000000000000000000 := by decide +kernel
    rw [h3]
    omega
  · refine c_ret (Stp.go x0 e) (es_ixLM (x0.trans e) (em_lst (ea_cons' (x0.trans e) (es_opC (x0.trans e) (es_opC (x0.trans e) (es_varI (x0.trans e) rfl) (es_int (x0.trans e)) (⟨by omega, by omega⟩)) (es_int (x0.trans e)) (by first | (show (0 : Int) < _; omega) | (show (0 : Int) < _; decide +kernel))) (ea_cons' (x0.trans e) (es_opC (x0.trans e) (es_opC (x0.trans e) (es_varI (x0.trans e) rfl) (es_int (x0.trans e)) (⟨by omega, by omega⟩)) (es_int (x0.trans e)) (by first | (show (0 : Int) < _; omega) | (show (0 : Int) < _; decide +kernel))) (ea_cons' (x0.trans e) (es_opC (x0.trans e) (es_opC (x0.trans e) (es_opC (x0.trans e) (es_varI (x0.trans e) rfl) (es_int (x0.trans e)) (⟨by omega, by omega⟩)) (es_int (x0.trans e)) (.inr ⟨by decide, by decide⟩)) (es_int (x0.trans e)) (by first | (show (0 : Int) < _; omega) | (show (0 : Int) < _; decide +kernel))) (ea_cons' (x0.trans e) (es_opC (x0.trans e) (es_opC (x0.trans e) (es_opC (x0.trans e) (es_varI (x0.trans e) rfl) (es_int (x0.trans e)) (⟨by omega, by omega⟩)) (es_opC (x0.trans e) (es_int (x0.trans e)) (es_int (x0.trans e)) (⟨by decide, by decide, by decide⟩)) (Bd.mul (Bd.div hp (by omega)) (by decide +kernel))) (es_opC (x0.trans e) (es_int (x0.trans e)) (es_int (x0.trans e)) (⟨by decide, by decide, by decide⟩)) (by first | (show (0 : Int) < _; omega) | (show (0 : Int) < _; decide +kernel))) (ea_nil' (x0.trans e)))))) (by show 4 ≤ 100000; decide)).s (es_opC (x0.trans e) (es_varI (x0.trans e) rfl) (es_int (x0.trans e)) (by first | (show (0 : Int) < _; omega) | (show (0 : Int) < _; decide +kernel))) (Int.emod_nonneg _ (by decide)) (by show _ < (4 : Int); exact Int.emod_lt_of_pos _ (by decide))) fun w y B2 H2 s hy hR => q w y B2 H2 s ?_ hR
    simp only [List.mem_cons, List.not_mem_nil, or_false] at hy
    rcases hy with hy | hy | hy | hy
    · rw [hy]
      omega
    · rw [hy]
      omega
    · rw [hy]
      have h1 := Int.emod_nonneg (y0 / 9 * 7919) (show (1000003 : Int) ≠ 0 by decide)
      have h2 := Int.emod_lt_of_pos (y0 / 9 * 7919) (show (0 : Int) < 1000003 by decide)
      omega
    · rw [hy]
      have h1 := Int.emod_nonneg (y0 / 9 * 48271 ^ (9 : Int).toNat) (show (10 ^ (40 : Int).toNat : Int) ≠ 0 by decide +kernel)
      have h2 := Int.emod_lt_of_pos (y0 / 9 * 48271 ^ (9 : Int).toNat) (show (0 : Int) < 10 ^ (40 : Int).toNat by decide +kernel)
      have h3 : (10 ^ (40 : Int).toNat : Int) ≤ 10000000000000000000000000000000000000000 := by decide +kernel
      exact ⟨h1, Int.lt_of_lt_of_le h2 h3⟩

theorem okr_ends {m s d : Int} (hm : 2 ≤ m) (h0 : 0 ≤ s) (h1 : s < m) (h2 : 0 ≤ d) (h3 : d < m - 1) : 0 ≤ (s + 1 + d) % m ∧ (s + 1 + d) % m < m ∧ s ≠ (s + 1 + d) % m := by
  have e : s + 1 + d = s + (1 + d) := by omega
  rw [e, emod_add_lt h0 h1 (by omega) (by omega)]
  split <;> omega
abbrev sp_road : Sp := Spec (ar2 eI eI) (fun i => Bd i.1 ∧ 2 ≤ i.2 ∧ i.2 ≤ 12) eR (fun i r => OkR i.2 r)
theorem d__law_road (F0 : FunAt K mg "_law_road" s__law_road) (T : Txt K mg) (G__law_cost : DefOk P w K mg base 1 "_law_cost" ["_law_cell"] sp_cost) : DefOk P w K mg base 2 "_law_road" ["_law_cell", "_law_many"] sp_road := by
  refine mk_def (k := 1) F0 sc__law_road (fun _ _ _ _ _ _ us hl => match us, hl with | [_, _], _ => rfl) (fun _ => (lenC (lenC lenN))) ?_
  intro f cdv A0 outer s E i B H vs Q hr x0 hA hp q
  obtain ⟨v0, _, _, rfl, rfl, h0, v1, _, _, rfl, rfl, h1, rfl⟩ := hA
  obtain ⟨y0, y1⟩ := i
  (try dsimp only at h0); (try dsimp only at h1); (try dsimp only at hp); (try dsimp only at q)
  refine ⟨_, (pss_cons (ps_set (i := 2) sc__law_road.nd rfl (by first | exact Or.inl rfl | exact Or.inr rfl) (pe_op op_mod (pv 0) (pv 1)))
      (pss_cons (ps_set (i := 3) sc__law_road.nd rfl (by first | exact Or.inl rfl | exact Or.inr rfl) (pe_op op_mod (pe_op op_add (pe_op op_add (pv 2) pe_int) (pe_op op_mod (pe_op op_fdiv (pv 0) (pv 1)) (pe_op op_sub (pv 1) pe_int))) (pv 1)))
      (pss_one (ps_ret (pe_tup (pa_cons (pv 2) (pa_cons (pv 3) (pa_cons (pe_callD G__law_cost (hr.mono (by decide)) rfl (pa_cons (pe_op op_fdiv (pe_op op_fdiv (pv 0) (pv 1)) (pv 1)) pa_nil)) pa_nil)))))))), ?_⟩
  cases h0
  cases h1
  obtain ⟨hb, hm, hm2⟩ := hp
  have g1 := Int.emod_nonneg y0 (show y1 ≠ 0 by omega)
  have g2 := Int.emod_lt_of_pos y0 (show 0 < y1 by omega)
  have g3 := Int.emod_nonneg (y0 / y1) (show y1 - 1 ≠ 0 by omega)
  have g4 := Int.emod_lt_of_pos (y0 / y1) (show 0 < y1 - 1 by omega)
  have g5 := okr_ends hm g1 g2 g3 g4
  refine q_setI (i := 2) (es_opC x0 (es_varI x0 rfl) (es_varI x0 rfl) (by first | (show (0 : Int) < _; omega) | (show (0 : Int) < _; decide +kernel))) fun H1 e1 => ?_
  refine q_setI (i := 3) (es_opC (x0.trans e1) (es_opI (x0.trans e1) (es_opI (x0.trans e1) (es_varI (x0.trans e1) rfl) (es_int (x0.trans e1))) (es_opC (x0.trans e1) (es_opC (x0.trans e1) (es_varI (x0.trans e1) rfl) (es_varI (x0.trans e1) rfl) (⟨by omega, by omega⟩)) (es_opI (x0.trans e1) (es_varI (x0.trans e1) rfl) (es_int (x0.trans e1))) (by first | (show (0 : Int) < _; omega) | (show (0 : Int) < _; decide +kernel)))) (es_varI (x0.trans e1) rfl) (by first | (show (0 : Int) < _; omega) | (show (0 : Int) < _; decide +kernel))) fun H2 e2 => ?_
  refine c_ret ((Stp.go x0 e1).goH e2) (es_tup3 ((x0.trans e1).trans e2) (es_varI (i := 2) ((x0.trans e1).trans e2) rfl) (es_varI (i := 3) ((x0.trans e1).trans e2) rfl) (es_call (y0 / y1 / y1) ((x0.trans e1).trans e2) (ea_c ((x0.trans e1).trans e2) mono_aN (es_opC ((x0.trans e1).trans e2) (es_opC ((x0.trans e1).trans e2) (es_varI ((x0.trans e1).trans e2) rfl) (es_varI ((x0.trans e1).trans e2) rfl) (⟨by omega, by omega⟩)) (es_varI ((x0.trans e1).trans e2) rfl) (⟨by omega, by omega⟩)) (ea_n ((x0.trans e1).trans e2))) (Bd.div (Bd.div hb (by omega)) (by omega)))) fun w y B2 H3 s hy hR => q w y B2 H3 s ?_ hR
  obtain ⟨ha, hb2, hc⟩ := hy
  exact ⟨by rw [ha]; exact g1, by rw [ha]; exact g2, by rw [hb2]; exact g5.1, by rw [hb2]; exact g5.2.1, by rw [ha, hb2]; exact g5.2.2, hc.1, hc.2⟩

abbrev spLaw (K : PySem.W.Frag) : Sp := Spec (ar1 (eScr K)) (fun ns => ns.length ≤ 63 ∧ ∀ n ∈ ns, Bd n) eB (fun _ y => y = true)
theorem d_law {f : Addr} {fd : FuncData} (F0 : Fun K "law" "law" s_law f fd) (T : Txt K mg) (G__law_cell_at : DefOk P w K mg base 1 "_law_cell_at" ["_law_script", "_law_k"] (sp_cell K)) (G__law_mixed : DefOk P w K mg base 1 "_law_mixed" ["_law_cell", "_law_k"] sp_mixed) (G__law_road : DefOk P w K mg base 2 "_law_road" ["_law_cell", "_law_many"] sp_road) (G_into : DefOk P w K mg base 1 "into" ["roads", "group"] sp_into) : FnOk P w K mg base CX0 3 f fd ["_law_script"] (spLaw K) := by
  refine mk_fn (k := 2) F0 sc_law (fun _ => (lenC lenN)) ?_
  intro cdv A0 outer s E i B H vs Q hr x0 hA hp q
  obtain ⟨v0, y0, _, rfl, rfl, h0, rfl⟩ := hA
  refine ⟨_, (pss_cons (ps_set (i := 1) sc_law.nd rfl (by first | exact Or.inl rfl | exact Or.inr rfl) (pe_op op_add pe_int (pe_op op_mod (pe_callD G__law_cell_at (hr.mono (by decide)) rfl (pa_cons (pv 0) (pa_cons pe_int pa_nil))) pe_int)))
      (pss_cons (ps_if (pt_cmpR op_gt (pe_op op_mod (pe_op op_fdiv (pe_callD G__law_cell_at (hr.mono (by decide)) rfl (pa_cons (pv 0) (pa_cons pe_int pa_nil))) pe_int) pe_int) pe_int (nomark _)) (pss_one (ps_set (i := 1) sc_law.nd rfl (by first | exact Or.inl rfl | exact Or.inr rfl) (pe_op op_add pe_int (pe_op op_mod (pe_op op_fdiv (pe_callD G__law_cell_at (hr.mono (by decide)) rfl (pa_cons (pv 0) (pa_cons pe_int pa_nil))) pe_int) pe_int)))) pss_nil)
      (pss_cons (ps_setLc (i := 2) (own := [("_law_cell", 11)]) (g := gName 11) rfl sc_law.nd rfl rfl (sw_true rfl rfl rfl (by decide +kernel)) (pi_list (pe_slice sl_list (pv 0) (po_some pe_int) (po_some pe_int))) (blkOk_by (N := N_law) (sc := defScope s_law) (by decide +kernel)) (fun _ _ _ _ _ => pg_name (i := 11) sc_law.nd rfl (Or.inl rfl)) (fun _ _ _ _ _ => pts_nil) (fun _ _ _ _ _ => (pe_callD G__law_road (hr.mono (by decide)) rfl (pa_cons (pv 11) (pa_cons (pv 1) pa_nil)))))
      (pss_cons (ps_for PassesOwn.never rfl (pi_range1 (by rfl) T.b_range (pa_cons (pe_op op_mod (pe_callD G__law_cell_at (hr.mono (by decide)) rfl (pa_cons (pv 0) (pa_cons pe_int pa_nil))) pe_int) pa_nil)) (pg_name (i := 3) sc_law.nd rfl (by first | exact Or.inl rfl | exact Or.inr rfl)) (pss_one (ps_expr (pe_bm PySem.F.plainAttrs_list PySem.F.slot_list_append PySem.F.type_list_append mt_append (pv 2) (pa_cons (pe_callD G__law_road (hr.mono (by decide)) rfl (pa_cons (pe_callD G__law_mixed (hr.mono (by decide)) rfl (pa_cons (pe_callD G__law_cell_at (hr.mono (by decide)) rfl (pa_cons (pv 0) (pa_cons pe_int pa_nil))) (pa_cons (pv 3) pa_nil))) (pa_cons (pv 1) pa_nil))) pa_nil)))))
      (pss_cons (ps_set (i := 4) sc_law.nd rfl (by first | exact Or.inl rfl | exact Or.inr rfl) (pe_lst pa_nil))
      (pss_cons (ps_set (i := 5) sc_law.nd rfl (by first | exact Or.inl rfl | exact Or.inr rfl) (pe_op op_fdiv (pe_callD G__law_cell_at (hr.mono (by decide)) rfl (pa_cons (pv 0) (pa_cons pe_int pa_nil))) pe_int))
      (pss_cons (ps_for PassesOwn.never rfl (pi_range1 (by rfl) T.b_range (pa_cons (pv 1) pa_nil)) (pg_name (i := 6) sc_law.nd rfl (by first | exact Or.inl rfl | exact Or.inr rfl)) (pss_cut (ps_if (pt_cmpR op_eq (pe_op op_mod (pe_op op_add (pv 5) (pe_op op_fdiv (pe_callD G__law_mixed (hr.mono (by decide)) rfl (pa_cons (pe_callD G__law_cell_at (hr.mono (by decide)) rfl (pa_cons (pv 0) (pa_cons pe_int pa_nil))) (pa_cons (pv 6) pa_nil))) pe_int)) pe_int) pe_int (nomark _)) (pss_one (ps_expr (pe_bm PySem.F.plainAttrs_list PySem.F.slot_list_append PySem.F.type_list_append mt_append (pv 4) (pa_cons (pv 6) pa_nil)))) pss_nil)
      (pss_one (ps_set (i := 5) sc_law.nd rfl (by first | exact Or.inl rfl | exact Or.inr rfl) (pe_op op_fdiv (pv 5) pe_int)))))
      (pss_cut (ps_if (pt_cmpR op_eq (pe_op op_mod (pe_callD G__law_cell_at (hr.mono (by decide)) rfl (pa_cons (pv 0) (pa_cons pe_int pa_nil))) pe_int) pe_int (nomark _)) (pss_one (ps_expr (pe_bm0 PySem.F.plainAttrs_list PySem.F.slot_list_reverse PySem.F.type_list_reverse mt_reverse (pv 4)))) pss_nil)
      (pss_cons (ps_set (i := 4) sc_law.nd rfl (by first | exact Or.inl rfl | exact Or.inr rfl) (pe_callTy cl_tuple (by rfl) T.b_tuple (by decide +kernel) (pa_cons (pv 4) pa_nil)))
      (pss_cons (ps_set (i := 7) sc_law.nd rfl (by first | exact Or.inl rfl | exact Or.inr rfl) (pe_callTy cl_list (by rfl) T.b_list (by decide +kernel) (pa_cons (pv 2) pa_nil)))
      (pss_cons (ps_set (i := 8) sc_law.nd rfl (by first | exact Or.inl rfl | exact Or.inr rfl) (pe_callD G_into (hr.mono (by decide)) rfl (pa_cons (pv 7) (pa_cons (pv 4) pa_nil))))
      (pss_cons (ps_if (pw_or (pt_not (pt_val (pe_callB call_isi (by rfl) T.b_isinstance (by decide +kernel) (pa_cons (pv 8) (pa_cons (pe_bltn (v := .ty "list") (u := .type "list") (by rfl) T.b_list (by decide +kernel) rfl) pa_nil))))) (pw_or1 (pt_cmpR (op_neD hr.units) (pv 7) (pv 2) (nomark _)))).pt (pss_one (ps_ret pe_bl)) pss_nil)
      (pss_cons (ps_for PassesOwn.never rfl (pi_list (pv 8)) (pg_name (i := 9) sc_law.nd rfl (by first | exact Or.inl rfl | exact Or.inr rfl)) (pss_one (ps_if (pw_or (pt_not (pt_val (pe_callB call_isi (by rfl) T.b_isinstance (by decide +kernel) (pa_cons (pv 9) (pa_cons (pe_bltn (v := .ty "int") (u := .type "int") (by rfl) T.b_int (by decide +kernel) rfl) pa_nil))))) (pw_or1 (pt_val (pe_callB call_isi (by rfl) T.b_isinstance (by decide +kernel) (pa_cons (pv 9) (pa_cons (pe_bltn (v := .ty "bool") (u := .type "bool") (by rfl) T.b_bool (by decide +kernel) rfl) pa_nil)))))).pt (pss_one (ps_ret pe_bl)) pss_nil)))
      (pss_cons (ps_set (i := 10) sc_law.nd rfl (by first | exact Or.inl rfl | exact Or.inr rfl) (pe_lst pa_nil))
      (pss_cons (ps_for PassesOwn.never rfl (pi_range1 (by rfl) T.b_range (pa_cons (pe_callB cl_len (by rfl) T.b_len (by decide +kernel) (pa_cons (pv 2) pa_nil)) pa_nil)) (pg_name (i := 9) sc_law.nd rfl (by first | exact Or.inl rfl | exact Or.inr rfl)) (pss_one (ps_if (pw_and (pt_cmpR op_in_seq (pe_ix ix_tup (pe_ix ix_list (pv 2) (pv 9) (fun _ _ => rfl)) pe_int (fun _ _ => rfl)) (pv 4) (by rfl)) (pw_and1 (pt_cmpR op_notIn_seq (pe_ix ix_tup (pe_ix ix_list (pv 2) (pv 9) (fun _ _ => rfl)) pe_int (fun _ _ => rfl)) (pv 4) (by rfl)))).pt (pss_one (ps_expr (pe_bm PySem.F.plainAttrs_list PySem.F.slot_list_append PySem.F.type_list_append mt_append (pv 10) (pa_cons (pv 9) pa_nil)))) pss_nil)))
      (pss_one (ps_ret (pe_cmpR (op_eqD hr.units) (pv 8) (pv 10) (nomark _))))))))))))))))))), ?_⟩
  obtain ⟨hlen, hbd⟩ := hp
  have hS := h0
  refine q_setI (i := 1) (es_opI x0 (es_int x0) (es_opC x0 (es_call ((y0, 0)) x0 (ea_c x0 (mono_aC mono_aN) (es_var x0 rfl hS) (ea_c x0 mono_aN (es_int x0) (ea_n x0))) (by show (0 : Int) ≤ _; omega)) (es_int x0) (by first | (show (0 : Int) < _; omega) | (show (0 : Int) < _; decide +kernel)))) fun H1 e1 => ?_
  have x1 := x0.trans e1
  refine q_ifSetI (T := fun m => 2 ≤ m ∧ m ≤ 12) (et_sT (es_opB x1 (es_opC x1 (es_opC x1 (es_call ((y0, 0)) x1 (ea_c x1 (mono_aC mono_aN) (es_var x1 rfl hS) (ea_c x1 mono_aN (es_int x1) (ea_n x1))) (by show (0 : Int) ≤ _; omega)) (es_int x1) (⟨by omega, by omega⟩)) (es_int x1) (by first | (show (0 : Int) < _; omega) | (show (0 : Int) < _; decide +kernel))) (es_int x1))) x1 (fun hb => EvS.imp (es_opI x1 (es_int x1) (es_opC x1 (es_opC x1 (es_call ((y0, 0)) x1 (ea_c x1 (mono_aC mono_aN) (es_var x1 rfl hS) (ea_c x1 mono_aN (es_int x1) (ea_n x1))) (by show (0 : Int) ≤ _; omega)) (es_int x1) (⟨by omega, by omega⟩)) (es_int x1) (by first | (show (0 : Int) < _; omega) | (show (0 : Int) < _; decide +kernel)))) fun y hy => ?_) (fun hb => ⟨_, rfl, ?_⟩) fun m B2 H2 s2 hm => ?_
  · rw [hy]
    omega
  · omega
  have s3 := (Stp.go x0 e1).trans s2
  clear s2
  replace hS := Enc.up _ s3.eb hS
  have x2 := s3.bh
  have hcut : ∀ n ∈ cutP y0 (some 3) (some 23), Bd n := fun n hn => hbd n (cutP_mem hn)
  have hcl := cutP_len y0 (some 3) (some 23)
  refine q_setM (em_lcL (E := eI) (F := eR) (p := fun _ => true) (Tr := fun _ r => OkR m r) x2 (em_slS x2 (es_var x2 rfl hS) (eo_some' (es_int x2)) (eo_some' (es_int x2))).s (by omega) (fun v => rfl) (fun _ _ _ _ _ _ _ => et_yes) (fun z v B3 H3 s4 hz hR _ => ?_)) fun l vs rs B3 H3 s4 nl bl hl hT hR => ?_
  · cases hR
    exact es_call (z, m) s4.bh (ea_c s4.bh (mono_aC mono_aN) (es_varI s4.bh rfl) (ea_c s4.bh mono_aN (es_varI s4.bh rfl) (ea_n s4.bh))) ⟨hcut z hz, hm.1, hm.2⟩
  rw [filter_yes] at hT
  have hok : ∀ r ∈ rs, OkR m r := pair_all (P := OkR m) (fun _ _ h => h) hT
  have hrl : rs.length ≤ 63 := by
    rw [pair_len hT]
    omega
  clear hT
  have c1 : Cell H B3 H3 l (.lst vs) := ⟨fresh_back s3.eh nl, bl, hl⟩
  have s5 := s3.trans s4
  replace hS := Enc.up _ s4.eb hS
  have x3 := s5.bh
  -- more roads
  have hg := Int.emod_nonneg (cellM y0 1) (show (21 : Int) ≠ 0 by decide)
  have hg2 := Int.emod_lt_of_pos (cellM y0 1) (show (0 : Int) < 21 by decide)
  refine q_forR (es_opC x3 (es_call ((y0, 1)) x3 (ea_c x3 (mono_aC mono_aN) (es_var x3 rfl hS) (ea_c x3 mono_aN (es_int x3) (ea_n x3))) (by show (0 : Int) ≤ _; omega)) (es_int x3) (by first | (show (0 : Int) < _; omega) | (show (0 : Int) < _; decide +kernel))) ⟨by omega, by omega⟩ (fun i σ' H' => ∃ a B' vs rs, σ' = [some v0, some (.int m), some (.ref l), a, none, none, none, none, none, none, none, none] ∧ Stp B H B' H' ∧ Ex B3 B' ∧ Cell H B' H' l (.lst vs) ∧ Paired (eR.R B') vs rs ∧ (∀ r ∈ rs, OkR m r) ∧ rs.length ≤ 63 + i)
    (fun H4 e4 => ⟨none, B3, vs, rs, rfl, s5.goH e4, Ex.refl _, c1.go e4, hR, hok, hrl⟩) (fun i σ' H' hi w => ?_) (fun σ' H' w => ?_)
  · obtain ⟨a, B', vs', rs', rfl, s6, eb, c, hR', hok', hl'⟩ := w
    have x6 := s6.bh
    have hS' := Enc.up _ eb hS
    refine c_app (i := 2) c s6 rfl (by rw [pl hR']; omega) (es_call (mixedM (cellM y0 1) i, m) x6 (ea_c x6 (mono_aC mono_aN) (es_call ((cellM y0 1, (i : Int))) x6 (ea_c x6 (mono_aC mono_aN) (es_call ((y0, 1)) x6 (ea_c x6 (mono_aC mono_aN) (es_var x6 rfl hS') (ea_c x6 mono_aN (es_int x6) (ea_n x6))) (by show (0 : Int) ≤ _; omega)) (ea_c x6 mono_aN (es_varI x6 rfl) (ea_n x6))) (⟨by show (-1000 : Int) ≤ _; omega, by show _ ≤ (1000 : Int); omega⟩)) (ea_c x6 mono_aN (es_varI x6 rfl) (ea_n x6))) ⟨mixedM_bd _ _, hm.1, hm.2⟩) fun v r B4 H4 s7 eb7 c7 _ hr hv => ?_
    refine ⟨_, B4, _, rs' ++ [r], rfl, s7, eb.trans eb7, c7, Paired.snoc (Enc.ups _ eb7 hR') hv, ?_, ?_⟩
    · intro z hz
      rcases List.mem_append.mp hz with hz | hz
      · exact hok' z hz
      · rw [List.mem_singleton.mp hz]
        exact hr
    · rw [List.length_append, List.length_singleton]
      omega
  obtain ⟨a, B4, vs4, rs4, rfl, s6, eb, c4, hR4, hok4, hl4⟩ := w
  replace hS := Enc.up _ eb hS
  clear hR hok hrl c1 s5 x3 eb s4
  have hn60 : rs4.length ≤ 100 := by omega
  have x6 := s6.bh
  -- the group
  refine q_setM (em_nil (E := eI) x6) fun g vg xs B5 H5 s7 ng bg hlg hxs hRg => ?_
  cases hxs
  cases hRg
  have cg : Cell H B5 H5 g (.lst []) := ⟨fresh_back s6.eh ng, bg, hlg⟩
  have ngl : l ≠ g := c4.neN ng
  replace c4 := c4.up s7
  replace hR4 := Enc.ups _ s7.eb hR4
  replace hS := Enc.up _ s7.eb hS
  replace s6 := s6.trans s7
  have x7 := s6.bh
  refine q_setI (i := 5) (es_opC x7 (es_call ((y0, 2)) x7 (ea_c x7 (mono_aC mono_aN) (es_var x7 rfl hS) (ea_c x7 mono_aN (es_int x7) (ea_n x7))) (by show (0 : Int) ≤ _; omega)) (es_int x7) (⟨by omega, by omega⟩)) fun H6 e6 => ?_
  replace s6 := s6.goH e6
  replace c4 := c4.go e6
  replace cg := cg.go e6
  have x8 := s6.bh
  refine q_forR (es_varI (n := m) x8 rfl) ⟨by omega, by omega⟩ (fun i σ' H' => ∃ a b n B', ∃ gs : List Int, σ' = [some v0, some (.int m), some (.ref l), a, some (.ref g), some (.int n), b, none, none, none, none, none] ∧ Stp B H B' H' ∧ Ex B5 B' ∧ Cell H B' H' l (.lst vs4) ∧ Cell H B' H' g (.lst (gs.map V.int)) ∧ gs.length ≤ i)
    (fun H4 e4 => ⟨_, none, _, B5, [], rfl, s6.goH e4, Ex.refl _, c4.go e4, cg.go e4, Nat.le_refl _⟩) (fun i σ' H' hi w => ?_) (fun σ' H' w => ?_)
  · obtain ⟨a, b, n, B', gs, rfl, s9, eb, cl, cg', hl'⟩ := w
    have x9 := s9.bh
    have hS' := Enc.up _ eb hS
    have him : (i : Int) < 12 := by omega
    refine q_cut (M := fun σ' H' => ∃ a B', ∃ gs : List Int, σ' = [some v0, some (.int m), some (.ref l), a, some (.ref g), some (.int n), some (.int i), none, none, none, none, none] ∧ Stp B H B' H' ∧ Ex B5 B' ∧ Cell H B' H' l (.lst vs4) ∧ Cell H B' H' g (.lst (gs.map V.int)) ∧ gs.length ≤ i + 1) ?_ ?_
    · refine s_when (et_sT (es_eqI x9 (es_opC x9 (es_opI x9 (es_varI x9 rfl) (es_opC x9 (es_call ((cellM y0 2, (i : Int))) x9 (ea_c x9 (mono_aC mono_aN) (es_call ((y0, 2)) x9 (ea_c x9 (mono_aC mono_aN) (es_var x9 rfl hS') (ea_c x9 mono_aN (es_int x9) (ea_n x9))) (by show (0 : Int) ≤ _; omega)) (ea_c x9 mono_aN (es_varI x9 rfl) (ea_n x9))) (⟨by show (-1000 : Int) ≤ _; omega, by show _ ≤ (1000 : Int); omega⟩)) (es_int x9) (⟨by omega, by omega⟩))) (es_int x9) (by first | (show (0 : Int) < _; omega) | (show (0 : Int) < _; decide +kernel))) (es_int x9))) (fun hb H7 e7 => ?_) (fun hb H7 e7 => ⟨_, B', gs, rfl, s9.goH e7, eb, cl.go e7, cg'.go e7, by omega⟩)
      refine c_app (i := 4) (cg'.go e7) (s9.goH e7) rfl (by rw [List.length_map]; omega) (es_varI (i := 6) (x9.trans e7) rfl) fun v r B6 H8 s10 eb10 c10 oth hr hv => ?_
      cases hr
      cases hv
      refine ⟨_, B6, gs ++ [(i : Int)], rfl, s10, eb.trans eb10, oth l _ ngl (cl.go e7), ?_, by rw [List.length_append, List.length_singleton]; omega⟩
      rw [map_snoc]
      exact c10
    · rintro σ' H' ⟨a, B', gs, rfl, s9, eb, cl, cg', hl'⟩
      have x9 := s9.bh
      refine s_asg (i := 5) (ev_sI (es_opC x9 (es_varI x9 rfl) (es_int x9) (⟨by omega, by omega⟩))) fun H7 e7 => ⟨_, _, _, B', gs, rfl, s9.goH e7, eb, cl.go e7, cg'.go e7, hl'⟩
  obtain ⟨a, b, n, B6, gs, rfl, s9, eb, cl, cg', hlg2⟩ := w
  replace hS := Enc.up _ eb hS
  replace hR4 := Enc.ups _ eb hR4
  clear c4 cg s6 x8
  have x9 := s9.bh
  refine q_cut (M := fun σ' H' => ∃ gs : List Int, gs.length ≤ 12 ∧ σ' = [some v0, some (.int m), some (.ref l), a, some (.ref g), some (.int n), b, none, none, none, none, none] ∧ Stp B H B6 H' ∧ Cell H B6 H' l (.lst vs4) ∧ Cell H B6 H' g (.lst (gs.map V.int))) ?_ ?_
  · refine s_when (et_sT (es_eqI x9 (es_opC x9 (es_call ((y0, 2)) x9 (ea_c x9 (mono_aC mono_aN) (es_var x9 rfl hS) (ea_c x9 mono_aN (es_int x9) (ea_n x9))) (by show (0 : Int) ≤ _; omega)) (es_int x9) (by first | (show (0 : Int) < _; omega) | (show (0 : Int) < _; decide +kernel))) (es_int x9))) (fun hb H7 e7 => ?_) (fun hb H7 e7 => ⟨gs, by omega, rfl, s9.goH e7, cl.go e7, cg'.go e7⟩)
    refine c_rev (i := 4) (cg'.go e7) (s9.goH e7) rfl fun H8 s10 c10 oth => ⟨gs.reverse, by rw [List.length_reverse]; omega, rfl, s10, oth l _ ngl (cl.go e7), ?_⟩
    rw [List.map_reverse]
    exact c10
  clear hlg2 cg' cl s9 x9
  rintro σ' H7 ⟨gs, hgs, rfl, s9, cl, cg'⟩
  have x9 := s9.bh
  -- tuple, list
  obtain ⟨Bp, t1, eb1, hL2, oth1⟩ := cell_pub (E := eR) cl s9 hR4
  obtain ⟨Bq, t2, eb2, hgL, _⟩ := cell_pub (E := eI) (oth1 g _ ngl.symm cg') t1 (pI' gs)
  replace hL2 := Enc.up _ eb2 hL2
  clear s9 cl cg' x9 t1 oth1
  have x9 := t2.bh
  refine q_setS (i := 4) (es_tupL x9 (es_var x9 rfl hgL)) fun vg yg B7 H8 s10 hy hG => ?_
  cases hy
  replace t2 := t2.trans s10
  replace hL2 := Enc.up _ s10.eb hL2
  clear hgL x9 s10
  have x9 := t2.bh
  refine q_setS (i := 7) (em_listL x9 (es_var x9 rfl hL2)).s fun vh yh B8 H9 s11 hy hH => ?_
  cases hy
  replace t2 := t2.trans s11
  replace hL2 := Enc.up _ s11.eb hL2
  replace hG := Enc.up _ s11.eb hG
  clear x9 s11
  have x9 := t2.bh
  refine q_setS (i := 8) (em_call (rs4, gs) x9 (ea_c x9 (mono_aC mono_aN) (es_var x9 rfl hH) (ea_c x9 mono_aN (es_var x9 rfl hG) (ea_n x9))) hn60).s fun vf yf B9 H10 s12 hy hF => ?_
  cases hy
  replace t2 := t2.trans s12
  replace hL2 := Enc.up _ s12.eb hL2
  replace hG := Enc.up _ s12.eb hG
  replace hH := Enc.up _ s12.eb hH
  clear x9 s12
  have x9 := t2.bh
  -- the checks
  refine q_when (et_or (et_not (et_sB (es_isiL x9 (es_var x9 rfl hF) k_ll))) fun _ => et_sT (es_neSame (deL deR) (by decide) x9 (es_var x9 rfl hH) (es_var x9 rfl hL2))) (fun hb => by cases hb) (fun _ H11 e11 => ?_)
  replace t2 := t2.goH e11
  clear x9
  have x9 := t2.bh
  refine q_forE x9 ⟨_, ev_var rfl, hF⟩ (fun i σ' H' => ∃ c, σ' = [some v0, some (.int m), some (.ref l), a, some vg, some (.int n), b, some vh, some vf, c, none, none] ∧ Stp B H B9 H')
    (fun H4 e4 => ⟨none, rfl, t2.goH e4⟩) (fun i σ' H' ⟨_, _, s⟩ => s.bh) (fun i z v σ' H' hi hv w => ?_) (fun σ' H' w => ?_)
  · obtain ⟨c, rfl, s⟩ := w
    cases hv
    exact s_when (et_whole s.bh (es_varI s.bh rfl) (es_varI s.bh rfl)) (fun hb => by cases hb) fun _ H5 e5 => ⟨_, rfl, s.goH e5⟩
  obtain ⟨c, rfl, s⟩ := w
  clear t2 x9
  have x9 := s.bh
  refine q_setM (em_nil (E := eI) x9) fun u vu xs B10 H11 s7 nu bu hlu hxs hRu => ?_
  cases hxs
  cases hRu
  have cu : Cell H B10 H11 u (.lst []) := ⟨fresh_back s.eh nu, bu, hlu⟩
  replace s := s.trans s7
  replace hL2 := Enc.up _ s7.eb hL2
  replace hG := Enc.up _ s7.eb hG
  replace hF := Enc.up _ s7.eb hF
  clear x9 s7
  have x9 := s.bh
  refine q_forR (es_lenL x9 (es_var x9 rfl hL2)) ⟨by omega, by omega⟩ (fun i σ' H' => ∃ c B', σ' = [some v0, some (.int m), some (.ref l), a, some vg, some (.int n), b, some vh, some vf, c, some (.ref u), none] ∧ Stp B H B' H' ∧ Ex B10 B' ∧ Cell H B' H' u (.lst ((sel (fun r => comesIn r gs) rs4 i).map V.int)))
    (fun H4 e4 => ⟨_, B10, rfl, s.goH e4, Ex.refl _, cu.go e4⟩) (fun i σ' H' hi w => ?_) (fun σ' H' w => ?_)
  · obtain ⟨c, B', rfl, s9, eb, cu'⟩ := w
    have x10 := s9.bh
    have hi' : i < rs4.length := by omega
    have hx : rs4[i]? = some rs4[i] := List.getElem?_eq_getElem hi'
    have hL3 := Enc.up _ eb hL2
    have hG3 := Enc.up _ eb hG
    refine s_when (et_and (et_sT (es_inT x10 (es_31 x10 (es_ixL x10 (es_var x10 rfl hL3) (es_varI x10 rfl) (by omega) (by rw [Int.toNat_natCast]; exact hx))) (es_var x10 rfl hG3))) fun _ => (et_sT (es_ninT x10 (es_30 x10 (es_ixL x10 (es_var x10 rfl hL3) (es_varI x10 rfl) (by omega) (by rw [Int.toNat_natCast]; exact hx))) (es_var x10 rfl hG3)))) (fun hb H7 e7 => ?_) (fun hb H7 e7 => ⟨_, B', rfl, s9.goH e7, eb, ?_⟩)
    · refine c_app (i := 10) (cu'.go e7) (s9.goH e7) rfl (by rw [List.length_map]; have := sel_len (fun r => comesIn r gs) rs4 i; omega) (es_varI (i := 9) (x10.trans e7) rfl) fun v r B6 H8 s10 eb10 c10 oth hr hv => ?_
      cases hr
      cases hv
      refine ⟨_, B6, rfl, s10, eb.trans eb10, ?_⟩
      rw [sel_yes hx hb, map_snoc]
      exact c10
    · rw [sel_no hx hb]
      exact cu'.go e7
  obtain ⟨c, B11, rfl, s9, eb, cu'⟩ := w
  replace hF := Enc.up _ eb hF
  obtain ⟨Bz, t3, eb3, hU, _⟩ := cell_pub (E := eI) cu' s9 (pI' _)
  replace hF := Enc.up _ eb3 hF
  have x10 := t3.bh
  exact c_ret t3 (es_eqSame (deL deI) (by decide) x10 (es_var x10 rfl hF) (es_var x10 rfl hU)) q
end
theorem all_mk {l : PySem.W.OpenLaw} {w : World} {K : PySem.W.Frag} {h : Heap} {mg : Str → Option Value} {fa f0 f1 f2 f3 f4 f5 : Addr} (X : K.In h) (G : h.Ns mainGlobals mg) (hfa : mg "law" = some (.ref fa))
    {od0 an0 od1 an1 od2 an2 od3 an3 od4 an4 od5 an5 : Option Addr} {sl0 sl1 sl2 sl3 sl4 sl5 : Array (Option Value)} {oc0 kV0 dc0 pm0 cd0 ct0 oc1 kV1 dc1 pm1 cd1 ct1 oc2 kV2 dc2 pm2 cd2 ct2 oc3 kV3 dc3 pm3 cd3 ct3 oc4 kV4 dc4 pm4 cd4 ct4 oc5 kV5 dc5 pm5 cd5 ct5 : Value}
    (a0 : PySem.W.nsIn K mainGlobals "into" = some (some (.ref f0))) (l0 : K.lookup f0 = some ⟨oc0, od0, .func (PySem.W.fnOf "into" "into" (defArgs s_into) (defBody s_into) (defScope s_into) .none kV0 dc0 pm0 an0 cd0 ct0), sl0⟩) (c0 : PySem.W.codeIn K cd0 "into" = true) (k0 : PySem.W.keepIn K (.ref f0) = true)
    (a1 : PySem.W.nsIn K mainGlobals "_law_cell_at" = some (some (.ref f1))) (l1 : K.lookup f1 = some ⟨oc1, od1, .func (PySem.W.fnOf "_law_cell_at" "_law_cell_at" (defArgs s__law_cell_at) (defBody s__law_cell_at) (defScope s__law_cell_at) .none kV1 dc1 pm1 an1 cd1 ct1), sl1⟩) (c1 : PySem.W.codeIn K cd1 "_law_cell_at" = true) (k1 : PySem.W.keepIn K (.ref f1) = true)
    (a2 : PySem.W.nsIn K mainGlobals "_law_mixed" = some (some (.ref f2))) (l2 : K.lookup f2 = some ⟨oc2, od2, .func (PySem.W.fnOf "_law_mixed" "_law_mixed" (defArgs s__law_mixed) (defBody s__law_mixed) (defScope s__law_mixed) .none kV2 dc2 pm2 an2 cd2 ct2), sl2⟩) (c2 : PySem.W.codeIn K cd2 "_law_mixed" = true) (k2 : PySem.W.keepIn K (.ref f2) = true)
    (a3 : PySem.W.nsIn K mainGlobals "_law_cost" = some (some (.ref f3))) (l3 : K.lookup f3 = some ⟨oc3, od3, .func (PySem.W.fnOf "_law_cost" "_law_cost" (defArgs s__law_cost) (defBody s__law_cost) (defScope s__law_cost) .none kV3 dc3 pm3 an3 cd3 ct3), sl3⟩) (c3 : PySem.W.codeIn K cd3 "_law_cost" = true) (k3 : PySem.W.keepIn K (.ref f3) = true)
    (a4 : PySem.W.nsIn K mainGlobals "_law_road" = some (some (.ref f4))) (l4 : K.lookup f4 = some ⟨oc4, od4, .func (PySem.W.fnOf "_law_road" "_law_road" (defArgs s__law_road) (defBody s__law_road) (defScope s__law_road) .none kV4 dc4 pm4 an4 cd4 ct4), sl4⟩) (c4 : PySem.W.codeIn K cd4 "_law_road" = true) (k4 : PySem.W.keepIn K (.ref f4) = true)
    (a5 : PySem.W.nsIn K mainGlobals "law" = some (some (.ref f5))) (l5 : K.lookup f5 = some ⟨oc5, od5, .func (PySem.W.fnOf "law" "law" (defArgs s_law) (defBody s_law) (defScope s_law) .none kV5 dc5 pm5 an5 cd5 ct5), sl5⟩) (c5 : PySem.W.codeIn K cd5 "law" = true) (k5 : PySem.W.keepIn K (.ref f5) = true)
    (z_bool : PySem.W.nsIn K mainGlobals "bool" = some none)
    (z_enumerate : PySem.W.nsIn K mainGlobals "enumerate" = some none)
    (z_int : PySem.W.nsIn K mainGlobals "int" = some none)
    (z_isinstance : PySem.W.nsIn K mainGlobals "isinstance" = some none)
    (z_len : PySem.W.nsIn K mainGlobals "len" = some none)
    (z_list : PySem.W.nsIn K mainGlobals "list" = some none)
    (z_range : PySem.W.nsIn K mainGlobals "range" = some none)
    (z_tuple : PySem.W.nsIn K mainGlobals "tuple" = some none)
    : ∃ fd : FuncData, (∀ (s : Shared) (v : Value), BindsTo s fd ⟨[v], []⟩ [("_law_script", v)]) ∧ ∀ base : Heap, K.In base → base.Ns mainGlobals mg → FnOk l.prog w K mg base CX0 3 fa fd ["_law_script"] (spLaw K) := by
  have e := hfa.symm.trans (PySem.W.mg_of X G a5)
  cases e
  have T : Txt K mg := ⟨PySem.W.mg_none_of X G z_bool, PySem.W.mg_none_of X G z_enumerate, PySem.W.mg_none_of X G z_int, PySem.W.mg_none_of X G z_isinstance, PySem.W.mg_none_of X G z_len, PySem.W.mg_none_of X G z_list, PySem.W.mg_none_of X G z_range, PySem.W.mg_none_of X G z_tuple⟩
  refine ⟨PySem.W.fnOf "law" "law" (defArgs s_law) (defBody s_law) (defScope s_law) .none kV5 dc5 pm5 an5 cd5 ct5, fun s v => .of_eq rfl, fun base _ _ => ?_⟩
  have G_into := d_into (P := l.prog) (w := w) (base := base) ⟨f0, _, fun_mk (st := s_into) l0 c0 k0, PySem.W.mg_of X G a0⟩ T 
  have G__law_cell_at := d__law_cell_at (P := l.prog) (w := w) (base := base) ⟨f1, _, fun_mk (st := s__law_cell_at) l1 c1 k1, PySem.W.mg_of X G a1⟩ T 
  have G__law_mixed := d__law_mixed (P := l.prog) (w := w) (base := base) ⟨f2, _, fun_mk (st := s__law_mixed) l2 c2 k2, PySem.W.mg_of X G a2⟩ T 
  have G__law_cost := d__law_cost (P := l.prog) (w := w) (base := base) ⟨f3, _, fun_mk (st := s__law_cost) l3 c3 k3, PySem.W.mg_of X G a3⟩ T 
  have G__law_road := d__law_road (P := l.prog) (w := w) (base := base) ⟨f4, _, fun_mk (st := s__law_road) l4 c4 k4, PySem.W.mg_of X G a4⟩ T G__law_cost
  exact d_law (P := l.prog) (w := w) (base := base) (fun_mk (st := s_law) l5 c5 k5) T G__law_cell_at G__law_mixed G__law_road G_into
theorem walk {l : PySem.W.OpenLaw} {q : Program} {loose : List Str} {XP : (Str → Option Value) → Heap → Prop} {YP : World → Heap → Prop} {d : DefRec} {K : Params → PySem.W.Frag} (hn : l.most = some 63) (hdf : d.params.defaults = [])
    (hY : ∀ (w : World) (h : Heap), YP w h → (K w.params).In h)
    (F : ∀ (w : World) (mg : Str → Option Value) (fa : Addr) (h : Heap), (K w.params).In h → h.Ns mainGlobals mg → mg d.name = some (.ref fa) →
      ∃ fd : FuncData, (∀ (s : Shared) (u : Value), BindsTo s fd ⟨[u], []⟩ [("_law_script", u)]) ∧ ∀ base : Heap, (K w.params).In base → base.Ns mainGlobals mg → FnOk l.prog w (K w.params) mg base CX0 3 fa fd ["_law_script"] (spLaw (K w.params))) :
    PySem.W.WalkO q loose XP YP l.row.toRowW d [] (fun f vs => PySem.call f vs) :=
  L2.walk_ofB (n := 63) (k := 3) (x := "_law_script") (CX := fun _ => CX0) (sp := fun w => spLaw (K w.params)) hn (by decide) hdf ⟨rfl, by decide, by decide⟩ hY F (fun _ H a ns hl hb _ hS =>
    ⟨ns, H, Ex.refl H, ⟨_, ns, [], rfl, rfl, ⟨a, rfl, hS⟩, rfl⟩, ⟨hl, fun z hz => Bd.bits (hb z hz)⟩, fun w y B2 H2 _ hy hR => by cases hy; exact hR⟩) fun _ _ _ _ _ z => z
end RR
open PySem PySem.W PyProof.Rows in
set_option maxRecDepth 100000 in
set_option maxHeartbeats 0 in
theorem PySem.Challenge.cw_rootroads_k01_roads_into_a_set_holds : PySem.Challenge.rw_rootroads_k01_roads_into_a_set.Holds := by
  w_on; o_law; k_head; (case hw => w_witness2)
  k_fill
  refine RR.walk (l := PySem.Challenge.rw_rootroads_k01_roads_into_a_set) rfl rfl (fun w h Y => PySem.W.kIn_of Y) ?F
  case F =>
    intro w mg fa h KX G hmg
    refine' RR.all_mk KX G hmg ?a0 ?l0 ?c0 ?k0 ?a1 ?l1 ?c1 ?k1 ?a2 ?l2 ?c2 ?k2 ?a3 ?l3 ?c3 ?k3 ?a4 ?l4 ?c4 ?k4 ?a5 ?l5 ?c5 ?k5 ?z_bool ?z_enumerate ?z_int ?z_isinstance ?z_len ?z_list ?z_range ?z_tuple
    (case a0 => k_is)
    (case l0 => k_is)
    (case c0 => k_is)
    (case k0 => k_is)
    (case a1 => k_is)
    (case l1 => k_is)
    (case c1 => k_is)
    (case k1 => k_is)
    (case a2 => k_is)
    (case l2 => k_is)
    (case c2 => k_is)
    (case k2 => k_is)
    (case a3 => k_is)
    (case l3 => k_is)
    (case c3 => k_is)
    (case k3 => k_is)
    (case a4 => k_is)
    (case l4 => k_is)
    (case c4 => k_is)
    (case k4 => k_is)
    (case a5 => k_is)
    (case l5 => k_is)
    (case c5 => k_is)
    (case k5 => k_is)
    (case z_bool => k_is)
    (case z_enumerate => k_is)
    (case z_int => k_is)
    (case z_isinstance => k_is)
    (case z_len => k_is)
    (case z_list => k_is)
    (case z_range => k_is)
    (case z_tuple => k_is)
#print axioms PySem.Challenge.cw_rootroads_k01_roads_into_a_set_holds
