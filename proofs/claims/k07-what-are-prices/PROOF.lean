import PyProof.Rows.All
import Wide.All
import OpenK.AllK
import Wide.FinOn
import HandS.ForMost
import HandS.Evl
import HandS.IsInst
import HandS.Wide
import HandS.EndBits
import HandS.Deep
import HandS.More
import HandS.TupAny
import HandS.SortInts
import HandS.SortKw
import PyProof.TupleOfSeq
import PySem.Challenge.RW_rootroads_k07_what_are_prices
set_option Elab.async false
set_option linter.all false
set_option maxRecDepth 100000
set_option maxHeartbeats 8000000
namespace RR
open PySem L2 Evl

/-! ### 1. Two heaps: B, what is known for good; H, what stands. -/
structure Stp (B H B' H' : Hp) : Prop where
  eb : Ex B B'
  eh : Ex H H'
  bh : Ex B' H'
  nw : ∀ b o, B' b = some o → B b = some o ∨ H b = none
theorem Stp.refl {B H : Hp} (x : Ex B H) : Stp B H B H := ⟨Ex.refl _, Ex.refl _, x, fun _ _ h => .inl h⟩
theorem Stp.trans {B H B1 H1 B2 H2 : Hp} (a : Stp B H B1 H1) (b : Stp B1 H1 B2 H2) : Stp B H B2 H2 :=
  ⟨a.eb.trans b.eb, a.eh.trans b.eh, b.bh, fun c o h => by
    rcases b.nw c o h with q | q
    · exact a.nw c o q
    · exact .inr (fresh_back a.eh q)⟩
theorem Stp.go {B H H1 : Hp} (x : Ex B H) (e : Ex H H1) : Stp B H B H1 := ⟨Ex.refl _, e, x.trans e, fun _ _ h => .inl h⟩
theorem Stp.goH {B0 H0 B H H1 : Hp} (s : Stp B0 H0 B H) (e : Ex H H1) : Stp B0 H0 B H1 := s.trans (Stp.go s.bh e)
theorem Stp.new {B H : Hp} (x : Ex B H) {p : Addr} {o : HO} (hp : H p = none) : Stp B H (upd B p o) (upd H p o) :=
  ⟨Ex.new (fresh_back x hp), Ex.new hp, fun a u h => by
    by_cases e : a = p
    · subst e
      rw [upd_same] at h ⊢
      exact h
    · rw [upd_ne e] at h ⊢
      exact x a u h, fun b u h => by
    by_cases e : b = p
    · subst e
      exact .inr hp
    · rw [upd_ne e] at h
      exact .inl h⟩
/-- the union of what is known -/
def jn (A B : Hp) : Hp := fun a => match A a with
  | some o => some o
  | none => B a
theorem jn_l {A B : Hp} : Ex A (jn A B) := fun a o h => by
  unfold jn
  rw [h]
theorem jn_h {A B H : Hp} (x : Ex A H) (y : Ex B H) : Ex (jn A B) H := fun a o h => by
  unfold jn at h
  cases e : A a with
  | some u =>
    rw [e] at h
    cases h
    exact x a _ e
  | none =>
    rw [e] at h
    exact y a _ h
theorem jn_r {A B H : Hp} (x : Ex A H) (y : Ex B H) : Ex B (jn A B) := fun a o h => by
  unfold jn
  cases e : A a with
  | some u =>
    have h1 := x a _ e
    rw [y a _ h] at h1
    exact h1.symm
  | none => exact h
/-- a step shown from less is a step from more -/
theorem Stp.join {B H B1 H1 B2 H2 H3 : Hp} (s : Stp B H B1 H1) (e : Ex H1 H2) (t : Stp B H2 B2 H3) : Stp B1 H2 (jn B1 B2) H3 :=
  ⟨jn_l, t.eh, jn_h ((s.bh.trans e).trans t.eh) t.bh, fun b o h => by
    unfold jn at h
    cases q : B1 b with
    | some u =>
      rw [q] at h
      cases h
      exact .inl rfl
    | none =>
      rw [q] at h
      rcases t.nw b o h with z | z
      · rw [s.eb b o z] at q
        cases q
      · exact .inr z⟩

/-- a thing of one's own, that changes: made behind H0, in no B -/
structure Cell (H0 B H : Hp) (p : Addr) (o : HO) : Prop where
  n : H0 p = none
  b : B p = none
  h : H p = some o
section
variable {B0 H0 B H B1 H1 : Hp} {p q : Addr} {o u v : HO}
theorem Cell.nb (c : Cell H0 B H p o) (s : Stp B H B1 H1) : B1 p = none := by
  cases e : B1 p with
  | none => rfl
  | some z =>
    rcases s.nw p z e with r | r
    · rw [c.b] at r
      cases r
    · rw [c.h] at r
      cases r
theorem Cell.up (c : Cell H0 B H p o) (s : Stp B H B1 H1) : Cell H0 B1 H1 p o := ⟨c.n, c.nb s, s.eh _ _ c.h⟩
theorem Cell.go (c : Cell H0 B H p o) (e : Ex H H1) : Cell H0 B H1 p o := ⟨c.n, c.b, e _ _ c.h⟩
theorem Cell.mut (c : Cell H0 B H p o) (s : Stp B0 H0 B H) : Stp B0 H0 B (upd H p u) :=
  ⟨s.eb, Ex.mut s.eh c.n, Ex.mut s.bh c.b, s.nw⟩
theorem Cell.same (c : Cell H0 B H p o) : Cell H0 B (upd H p u) p u := ⟨c.n, c.b, upd_same⟩
theorem Cell.other (c : Cell H0 B H p o) (ne : p ≠ q) : Cell H0 B (upd H q u) p o := ⟨c.n, c.b, by rw [upd_ne ne]; exact c.h⟩
theorem Cell.ne (c : Cell H0 B H p o) (d : Cell H0 B H q u) (h : o ≠ u) : p ≠ q := ne_of c.h d.h h
theorem Cell.neN (c : Cell H0 B H p o) (d : H q = none) : p ≠ q := ne_of_none c.h d
end

/-! ### 2. What a value stands for -/
structure Enc (α : Type) where
  R : Hp → V → α → Prop
  up : ∀ {H H' : Hp} {v : V} {x : α}, Ex H H' → R H v x → R H' v x
section
variable {α β γ : Type}
theorem pmap {R S : V → α → Prop} (h : ∀ v x, R v x → S v x) : ∀ {vs : List V} {xs : List α}, Paired R vs xs → Paired S vs xs
  | _, _, .nil => .nil
  | _, _, .cons r t => .cons (h _ _ r) (pmap h t)
theorem Enc.ups (E : Enc α) {H H' : Hp} (e : Ex H H') {vs : List V} {xs : List α} (h : Paired (E.R H) vs xs) : Paired (E.R H') vs xs := pmap (fun _ _ q => E.up e q) h
theorem pget {R : V → α → Prop} : ∀ {vs : List V} {xs : List α} {i : Nat} {x : α}, Paired R vs xs → xs[i]? = some x → ∃ v, vs[i]? = some v ∧ R v x
  | _, _, i, x, .nil, h => by simp at h
  | _, _, 0, x, .cons r t, h => by
    simp only [List.getElem?_cons_zero, Option.some.injEq] at h
    subst h
    exact ⟨_, rfl, r⟩
  | _, _, i + 1, x, .cons r t, h => by
    simp only [List.getElem?_cons_succ] at h ⊢
    exact pget t h
theorem pgetV {R : V → α → Prop} {vs : List V} {xs : List α} {i : Nat} {v : V} (p : Paired R vs xs) (h : vs[i]? = some v) : ∃ x, xs[i]? = some x ∧ R v x := by
  induction p generalizing i with
  | nil => simp at h
  | cons r t ih =>
    cases i with
    | zero =>
      simp only [List.getElem?_cons_zero, Option.some.injEq] at h
      subst h
      exact ⟨_, rfl, r⟩
    | succ i =>
      simp only [List.getElem?_cons_succ] at h ⊢
      exact ih h
theorem papp {R : V → α → Prop} : ∀ {vs ws : List V} {xs ys : List α}, Paired R vs xs → Paired R ws ys → Paired R (vs ++ ws) (xs ++ ys)
  | _, _, _, _, .nil, h => h
  | _, _, _, _, .cons r t, h => .cons r (papp t h)
theorem pdrop {R : V → α → Prop} : ∀ (n : Nat) {vs : List V} {xs : List α}, Paired R vs xs → Paired R (vs.drop n) (xs.drop n)
  | 0, _, _, h => h
  | n + 1, _, _, .nil => .nil
  | n + 1, _, _, .cons r t => pdrop n t
theorem ptake {R : V → α → Prop} : ∀ (n : Nat) {vs : List V} {xs : List α}, Paired R vs xs → Paired R (vs.take n) (xs.take n)
  | 0, _, _, h => .nil
  | n + 1, _, _, .nil => .nil
  | n + 1, _, _, .cons r t => .cons r (ptake n t)
theorem prev {R : V → α → Prop} : ∀ {vs : List V} {xs : List α}, Paired R vs xs → Paired R vs.reverse xs.reverse
  | _, _, .nil => .nil
  | _, _, .cons r t => by
    rw [List.reverse_cons, List.reverse_cons]
    exact papp (prev t) (.cons r .nil)
theorem pset {R : V → α → Prop} {v : V} {x : α} (r : R v x) : ∀ (i : Nat) {vs : List V} {xs : List α}, Paired R vs xs → Paired R (vs.set i v) (xs.set i x)
  | _, _, _, .nil => .nil
  | 0, _, _, .cons _ t => .cons r t
  | i + 1, _, _, .cons q t => .cons q (pset r i t)

def eI : Enc Int := ⟨fun _ v n => v = .int n, fun _ h => h⟩
def eB : Enc Bool := ⟨fun _ v b => v = .bl b, fun _ h => h⟩
def oV : Option Int → V
  | none => .non
  | some n => .int n
def eO : Enc (Option Int) := ⟨fun _ v o => v = oV o, fun _ h => h⟩
/-- any value, by itself -/
def eV : Enc V := ⟨fun _ v w => v = w, fun _ h => h⟩
def eL (E : Enc α) : Enc (List α) := ⟨fun H v xs => ∃ a vs, v = .ref a ∧ H a = some (.lst vs) ∧ Paired (E.R H) vs xs, fun e ⟨a, vs, h1, h2, h3⟩ => ⟨a, vs, h1, e _ _ h2, E.ups e h3⟩⟩
def eT (E : Enc α) : Enc (List α) := ⟨fun H v xs => ∃ a vs, v = .ref a ∧ H a = some (.tup vs) ∧ Paired (E.R H) vs xs, fun e ⟨a, vs, h1, h2, h3⟩ => ⟨a, vs, h1, e _ _ h2, E.ups e h3⟩⟩
def e2 (E : Enc α) (F : Enc β) : Enc (α × β) := ⟨fun H v x => ∃ a u w, v = .ref a ∧ H a = some (.tup [u, w]) ∧ E.R H u x.1 ∧ F.R H w x.2, fun e ⟨a, u, w, h1, h2, h3, h4⟩ => ⟨a, u, w, h1, e _ _ h2, E.up e h3, F.up e h4⟩⟩
def e3 (E : Enc α) (F : Enc β) (G : Enc γ) : Enc (α × β × γ) := ⟨fun H v x => ∃ a u w z, v = .ref a ∧ H a = some (.tup [u, w, z]) ∧ E.R H u x.1 ∧ F.R H w x.2.1 ∧ G.R H z x.2.2,
  fun e ⟨a, u, w, z, h1, h2, h3, h4, h5⟩ => ⟨a, u, w, z, h1, e _ _ h2, E.up e h3, F.up e h4, G.up e h5⟩⟩
/-- a tuple that begins with two ints -/
def eH : Enc (Int × Int) := ⟨fun H v x => ∃ a r, v = .ref a ∧ H a = some (.tup (.int x.1 :: .int x.2 :: r)), fun e ⟨a, r, h1, h2⟩ => ⟨a, r, h1, e _ _ h2⟩⟩
/-- a dict by its int keys -/
def eD : Enc (List Int) := ⟨fun H v ks => ∃ a kvs, v = .ref a ∧ H a = some (.dK kvs) ∧ kvs.map (·.1) = ks.map Sum.inl, fun e ⟨a, kvs, h1, h2, h3⟩ => ⟨a, kvs, h1, e _ _ h2, h3⟩⟩
abbrev Road := Int × Int × Int
abbrev eR : Enc Road := e3 eI eI eI
theorem pI {H : Hp} : ∀ {vs : List V} {ns : List Int}, Paired (eI.R H) vs ns → vs = ns.map V.int
  | _, _, .nil => rfl
  | _, _, .cons r t => by
    rw [pI t, show _ = V.int _ from r]
    rfl
theorem pI' {H : Hp} : ∀ (ns : List Int), Paired (eI.R H) (ns.map V.int) ns
  | [] => .nil
  | _ :: r => .cons rfl (pI' r)
theorem pO {H : Hp} : ∀ {vs : List V} {ns : List (Option Int)}, Paired (eO.R H) vs ns → vs = ns.map oV
  | _, _, .nil => rfl
  | _, _, .cons r t => by
    rw [pO t, show _ = oV _ from r]
    rfl
theorem pO' {H : Hp} : ∀ (ns : List (Option Int)), Paired (eO.R H) (ns.map oV) ns
  | [] => .nil
  | _ :: r => .cons rfl (pO' r)
theorem eLI {H : Hp} {v : V} {ns : List Int} (h : (eL eI).R H v ns) : ∃ a, v = .ref a ∧ H a = some (.lst (ns.map V.int)) := by
  obtain ⟨a, vs, h1, h2, h3⟩ := h
  rw [pI h3] at h2
  exact ⟨a, h1, h2⟩
theorem eTI {H : Hp} {v : V} {ns : List Int} (h : (eT eI).R H v ns) : ∃ a, v = .ref a ∧ H a = some (.tup (ns.map V.int)) := by
  obtain ⟨a, vs, h1, h2, h3⟩ := h
  rw [pI h3] at h2
  exact ⟨a, h1, h2⟩
theorem eR_H {H : Hp} {v : V} {r : Road} (h : eR.R H v r) : eH.R H v (r.1, r.2.1) := by
  obtain ⟨a, u, w, z, h1, h2, h3, h4, h5⟩ := h
  cases h3
  cases h4
  exact ⟨a, [z], h1, h2⟩
theorem eRs_H {H : Hp} {v : V} {rs : List Road} (h : (eL eR).R H v rs) : (eL eH).R H v (rs.map fun r => (r.1, r.2.1)) := by
  obtain ⟨a, vs, h1, h2, h3⟩ := h
  refine ⟨a, vs, h1, h2, ?_⟩
  clear h1 h2
  induction h3 with
  | nil => exact .nil
  | cons r t ih => exact .cons (eR_H r) ih
end

/-! ### 3. What an expression tells: EvS (a value that stands for some x with S x), EvM (a new list of one's own) -/
section
variable {α β γ δ ε : Type} {E : Enc α} {F : Enc β} {G : Enc γ}
def EvS (E : Enc α) (te : TE) (σ : L2.St) (B H : Hp) (S : α → Prop) : Prop := ∀ H1, Ex H H1 → ∀ Q : VK, (∀ v x B2 H2, Stp B H1 B2 H2 → S x → E.R B2 v x → Q v H2) → te σ H1 Q
abbrev EvE (E : Enc α) (te : TE) (σ : L2.St) (B H : Hp) (x : α) : Prop := EvS E te σ B H (fun y => y = x)
/-- a new list, known to none: it may be changed -/
def EvM (E : Enc α) (te : TE) (σ : L2.St) (B H : Hp) (S : List α → Prop) : Prop := ∀ H1, Ex H H1 → ∀ Q : VK, (∀ p vs xs B2 H2, Stp B H1 B2 H2 → H1 p = none → B2 p = none → H2 p = some (.lst vs) → S xs → Paired (E.R B2) vs xs → Q (.ref p) H2) → te σ H1 Q
variable {te ta tb tc : TE} {tt : TT} {σ : L2.St} {B H B1 H1 : Hp} {S : α → Prop} {T : β → Prop} {K : PySem.W.Frag}
theorem EvS.up (h : EvS E te σ B H S) (s : Stp B H B1 H1) : EvS E te σ B1 H1 S := fun H2 e Q k =>
  h H2 (s.eh.trans e) Q fun v x B2 H3 t hS hR => k v x (jn B1 B2) H3 (s.join e t) hS (E.up (jn_r ((s.bh.trans e).trans t.eh) t.bh) hR)
theorem EvM.up {S : List α → Prop} (h : EvM E te σ B H S) (s : Stp B H B1 H1) : EvM E te σ B1 H1 S := fun H2 e Q k =>
  h H2 (s.eh.trans e) Q fun p vs xs B2 H3 t hp bp hl hS hR => k p vs xs (jn B1 B2) H3 (s.join e t) hp (by
    have q : B1 p = none := fresh_back (s.bh.trans e) hp
    unfold jn
    rw [q]
    exact bp) hl hS (E.ups (jn_r ((s.bh.trans e).trans t.eh) t.bh) hR)
theorem EvM.s {S : List α → Prop} (h : EvM E te σ B H S) : EvS (eL E) te σ B H S := fun H2 e Q k =>
  h H2 e Q fun p vs xs B2 H3 t hp bp hl hS hR => k (.ref p) xs (upd B2 p (.lst vs)) H3 ⟨t.eb.trans (Ex.new bp), t.eh, fun a u q => by
    by_cases z : a = p
    · subst z
      rw [upd_same] at q
      cases q
      exact hl
    · rw [upd_ne z] at q
      exact t.bh a u q, fun a u q => by
    by_cases z : a = p
    · subst z
      exact .inr hp
    · rw [upd_ne z] at q
      exact t.nw a u q⟩ hS ⟨p, vs, rfl, upd_same, E.ups (Ex.new bp) hR⟩
theorem EvS.imp {S' : α → Prop} (h : EvS E te σ B H S) (i : ∀ x, S x → S' x) : EvS E te σ B H S' := fun H1 e Q k => h H1 e Q fun v x B2 H2 t hS hR => k v x B2 H2 t (i x hS) hR
theorem EvM.imp {S S' : List α → Prop} (h : EvM E te σ B H S) (i : ∀ x, S x → S' x) : EvM E te σ B H S' := fun H1 e Q k => h H1 e Q fun p vs xs B2 H2 t a b c hS hR => k p vs xs B2 H2 t a b c (i xs hS) hR
theorem EvE.to {x y : α} (h : EvE E te σ B H x) (e : x = y) : EvE E te σ B H y := e ▸ h
theorem EvS.conv {T : α → Prop} {E' : Enc β} {T' : β → Prop} (h : EvS E te σ B H T) (i : ∀ B v x, T x → E.R B v x → ∃ y, T' y ∧ E'.R B v y) : EvS E' te σ B H T' := fun H1 e Q k =>
  h H1 e Q fun v x B2 H2 t hS hR => by
    obtain ⟨y, a, b⟩ := i B2 v x hS hR
    exact k v y B2 H2 t a b
/-- scalars -/
theorem es_ev {v : V} {x : α} (x0 : Ex B H) (h : Ev te σ H v) (r : E.R B v x) : EvE E te σ B H x := fun H1 e Q k => h H1 e Q fun H2 e2 => k v x B H2 (Stp.go (x0.trans e) e2) rfl r
theorem es_evI {n : Int} (x0 : Ex B H) (h : Ev te σ H (.int n)) : EvE eI te σ B H n := es_ev x0 h rfl
theorem es_evB {b : Bool} (x0 : Ex B H) (h : Ev te σ H (.bl b)) : EvE eB te σ B H b := es_ev x0 h rfl
theorem ev_sI {n : Int} (h : EvE eI te σ B H n) : Ev te σ H (.int n) := fun H1 e Q k => h H1 e Q fun v x B2 H2 t hS hR => by
  cases hS
  cases hR
  exact k H2 t.eh
theorem ev_sB {b : Bool} (h : EvE eB te σ B H b) : Ev te σ H (.bl b) := fun H1 e Q k => h H1 e Q fun v x B2 H2 t hS hR => by
  cases hS
  cases hR
  exact k H2 t.eh
theorem ev_sO {o : Option Int} (h : EvE eO te σ B H o) : Ev te σ H (oV o) := fun H1 e Q k => h H1 e Q fun v x B2 H2 t hS hR => by
  cases hS
  cases hR
  exact k H2 t.eh
theorem et_sT {b : Bool} (h : EvE eB te σ B H b) : EvT (tTest te) σ H b := et_test (ev_sB h)
theorem et_sB {b : Bool} (h : EvE eB te σ B H b) : EvT (tB te) σ H b := et_B (ev_sB h)

theorem es_var {i : Nat} {v : V} {x : α} (x0 : Ex B H) (h : σ[i]? = some (some v)) (r : E.R B v x) : EvE E (tVar i) σ B H x := es_ev x0 (ev_var h) r
theorem es_varI {i : Nat} {n : Int} (x0 : Ex B H) (h : σ[i]? = some (some (.int n))) : EvE eI (tVar i) σ B H n := es_ev x0 (ev_var h) rfl
theorem es_int {n : Int} (x0 : Ex B H) : EvE eI (tC (.int n)) σ B H n := es_ev x0 ev_c rfl
theorem es_bl {b : Bool} (x0 : Ex B H) : EvE eB (tC (.bl b)) σ B H b := es_ev x0 ev_c rfl
theorem es_non (x0 : Ex B H) : EvE eO (tC .non) σ B H none := es_ev x0 ev_c rfl

/-- two parts, then an operation on what they stand for -/
theorem es_opG {r : R2} {x : α} {y : β} {P : γ → Prop} (x0 : Ex B H) (ha : EvE E ta σ B H x) (hb : EvE F tb σ B H y)
    (hr : ∀ v w B2 H2, Ex B2 H2 → E.R B2 v x → F.R B2 w y → ∀ Q : VK, (∀ z c B3 H3, Stp B2 H2 B3 H3 → P c → G.R B3 z c → Q z H3) → r v w H2 Q) : EvS G (tOp r ta tb) σ B H P := fun H1 e Q k =>
  ha H1 e _ fun v x' B2 H2 t hx hR => by
    cases hx
    exact hb.up ((Stp.go x0 e).trans t) H2 (Ex.refl _) _ fun w y' B3 H3 t2 hy hR2 => by
      cases hy
      exact hr v w B3 H3 t2.bh (E.up t2.eb hR) hR2 Q fun z c B4 H4 t3 hc hz => k z c B4 H4 ((t.trans t2).trans t3) hc hz
theorem es_op {r : R2} {x : α} {y : β} {c : γ} (x0 : Ex B H) (ha : EvE E ta σ B H x) (hb : EvE F tb σ B H y)
    (hr : ∀ v w B2 H2, Ex B2 H2 → E.R B2 v x → F.R B2 w y → ∃ z, G.R B2 z c ∧ ∀ Q : VK, Q z H2 → r v w H2 Q) : EvE G (tOp r ta tb) σ B H c :=
  es_opG x0 ha hb fun v w B2 H2 x2 hv hw Q k => by
    obtain ⟨z, hz, q⟩ := hr v w B2 H2 x2 hv hw
    exact q Q (k z c B2 H2 (Stp.refl x2) rfl hz)
theorem es_opI {g : Int → Int → Int} {x y : Int} (x0 : Ex B H) (ha : EvE eI ta σ B H x) (hb : EvE eI tb σ B H y) : EvE eI (tOp (rI0 fun i j => .int (g i j)) ta tb) σ B H (g x y) :=
  es_op x0 ha hb fun v w B2 H2 _ hv hw => ⟨_, rfl, fun Q q => ⟨x, y, hv, hw, q⟩⟩
theorem es_opB {g : Int → Int → Bool} {x y : Int} (x0 : Ex B H) (ha : EvE eI ta σ B H x) (hb : EvE eI tb σ B H y) : EvE eB (tOp (rI0 fun i j => .bl (g i j)) ta tb) σ B H (g x y) :=
  es_op x0 ha hb fun v w B2 H2 _ hv hw => ⟨_, rfl, fun Q q => ⟨x, y, hv, hw, q⟩⟩
theorem es_opC {C : Int → Int → Prop} {g : Int → Int → Int} {x y : Int} (x0 : Ex B H) (ha : EvE eI ta σ B H x) (hb : EvE eI tb σ B H y) (hc : C x y) : EvE eI (tOp (rI C fun i j => .int (g i j)) ta tb) σ B H (g x y) :=
  es_op x0 ha hb fun v w B2 H2 _ hv hw => ⟨_, rfl, fun Q q => ⟨x, y, hv, hw, hc, q⟩⟩
theorem es_neg {x : Int} (ha : EvE eI ta σ B H x) : EvE eI (tUn (rU fun i => .int (-i)) ta) σ B H (-x) := fun H1 e Q k =>
  ha H1 e _ fun v x' B2 H2 t hx hR => by
    cases hx
    exact ⟨x, hR, k _ _ B2 H2 t rfl rfl⟩
theorem dec_int (x y : Int) : decide (V.int x = V.int y) = decide (x = y) := by
  by_cases h : x = y
  · subst h
    simp
  · rw [decide_eq_false h, decide_eq_false fun q => h (V.int.inj q)]
theorem dec_bl (x y : Bool) : decide (V.bl x = V.bl y) = decide (x = y) := by
  by_cases h : x = y
  · subst h
    simp
  · rw [decide_eq_false h, decide_eq_false fun q => h (V.bl.inj q)]
theorem es_eqI {x y : Int} (x0 : Ex B H) (ha : EvE eI ta σ B H x) (hb : EvE eI tb σ B H y) : EvE eB (tOp rEq ta tb) σ B H (decide (x = y)) :=
  es_op x0 ha hb fun v w B2 H2 _ hv hw => ⟨_, rfl, fun Q q => by
    cases hv
    cases hw
    exact ⟨rfl, by rw [dec_int]; exact q⟩⟩
theorem es_neI {x y : Int} (x0 : Ex B H) (ha : EvE eI ta σ B H x) (hb : EvE eI tb σ B H y) : EvE eB (tOp rNe ta tb) σ B H (!decide (x = y)) :=
  es_op x0 ha hb fun v w B2 H2 _ hv hw => ⟨_, rfl, fun Q q => by
    cases hv
    cases hw
    exact ⟨rfl, by rw [dec_int]; exact q⟩⟩
theorem es_eqB {x y : Bool} (x0 : Ex B H) (ha : EvE eB ta σ B H x) (hb : EvE eB tb σ B H y) : EvE eB (tOp rEq ta tb) σ B H (decide (x = y)) :=
  es_op x0 ha hb fun v w B2 H2 _ hv hw => ⟨_, rfl, fun Q q => by
    cases hv
    cases hw
    exact ⟨rfl, by rw [dec_bl]; exact q⟩⟩
theorem es_neB {x y : Bool} (x0 : Ex B H) (ha : EvE eB ta σ B H x) (hb : EvE eB tb σ B H y) : EvE eB (tOp rNe ta tb) σ B H (!decide (x = y)) :=
  es_op x0 ha hb fun v w B2 H2 _ hv hw => ⟨_, rfl, fun Q q => by
    cases hv
    cases hw
    exact ⟨rfl, by rw [dec_bl]; exact q⟩⟩
theorem non_oV (o : Option Int) : decide (oV o = V.non) = o.isNone := by
  cases o with
  | none => rfl
  | some n => exact decide_eq_false fun q => nomatch q
theorem es_isNO {o : Option Int} (x0 : Ex B H) (ha : EvE eO ta σ B H o) : EvE eB (tOp (fun x y H Q => y = V.non ∧ Q (.bl (decide (x = .non))) H) ta (tC .non)) σ B H o.isNone :=
  es_op x0 ha (es_non x0) fun v w B2 H2 _ hv hw => ⟨_, rfl, fun Q q => by
    cases hv
    cases hw
    exact ⟨rfl, by rw [non_oV]; exact q⟩⟩
theorem es_notNO {o : Option Int} (x0 : Ex B H) (ha : EvE eO ta σ B H o) : EvE eB (tOp (fun x y H Q => y = V.non ∧ Q (.bl (!decide (x = .non))) H) ta (tC .non)) σ B H (!o.isNone) :=
  es_op x0 ha (es_non x0) fun v w B2 H2 _ hv hw => ⟨_, rfl, fun Q q => by
    cases hv
    cases hw
    exact ⟨rfl, by rw [non_oV]; exact q⟩⟩

/-! chains a < b < c -/
theorem es_chain {r r' : R2} {x : α} {y : β} {z : γ} {b1 b2 : Bool} (x0 : Ex B H) (ha : EvE E ta σ B H x) (hb : EvE F tb σ B H y) (hc : EvE G tc σ B H z)
    (hr : ∀ v w B2 H2, E.R B2 v x → F.R B2 w y → ∀ Q : VK, Q (.bl b1) H2 → r v w H2 Q) (hr' : ∀ v w B2 H2, F.R B2 v y → G.R B2 w z → ∀ Q : VK, Q (.bl b2) H2 → r' v w H2 Q) :
    EvE eB (tChain r r' ta tb tc) σ B H (b1 && b2) := fun H1 e Q k =>
  ha H1 e _ fun v x' B2 H2 t hx hR => by
    cases hx
    exact hb.up ((Stp.go x0 e).trans t) H2 (Ex.refl _) _ fun w y' B3 H3 t2 hy hR2 => by
      cases hy
      refine hr v w B3 H3 (E.up t2.eb hR) hR2 _ ⟨b1, rfl, ?_⟩
      cases b1 with
      | false => exact iteF (k _ _ B3 H3 (t.trans t2) rfl rfl)
      | true =>
        refine iteT (hc.up (((Stp.go x0 e).trans t).trans t2) H3 (Ex.refl _) _ fun w2 z' B4 H4 t3 hz hR3 => ?_)
        cases hz
        exact hr' w w2 B4 H4 (F.up t3.eb hR2) hR3 _ (k _ _ B4 H4 ((t.trans t2).trans t3) rfl rfl)

/-! ### places of lists and tuples -/
theorem atI_of {ξ : Type} {xs : List ξ} {i : Int} {x : ξ} (h0 : 0 ≤ i) (h : xs[i.toNat]? = some x) : atI xs i = some x := by
  have e : ((i.toNat : Nat) : Int) = i := Int.toNat_of_nonneg h0
  rw [← e]
  exact atI_nat h
theorem es_ixL {xs : List α} {i : Int} {x : α} (x0 : Ex B H) (ha : EvE (eL E) ta σ B H xs) (hb : EvE eI tb σ B H i) (h0 : 0 ≤ i) (hx : xs[i.toNat]? = some x) : EvE E (tOp (rIxL K) ta tb) σ B H x :=
  es_op x0 ha hb fun v w B2 H2 x2 hv hw => by
    obtain ⟨a, vs, h1, h2, h3⟩ := hv
    obtain ⟨u, h4, h5⟩ := pget h3 hx
    exact ⟨u, h5, fun Q q => ⟨a, vs, i, u, h1, hw, SqL.of (x2 _ _ h2), atI_of h0 h4, q⟩⟩
theorem es_ixT {xs : List α} {i : Int} {x : α} (x0 : Ex B H) (ha : EvE (eT E) ta σ B H xs) (hb : EvE eI tb σ B H i) (h0 : 0 ≤ i) (hx : xs[i.toNat]? = some x) : EvE E (tOp (rIxT K) ta tb) σ B H x :=
  es_op x0 ha hb fun v w B2 H2 x2 hv hw => by
    obtain ⟨a, vs, h1, h2, h3⟩ := hv
    obtain ⟨u, h4, h5⟩ := pget h3 hx
    exact ⟨u, h5, fun Q q => ⟨a, vs, i, u, h1, hw, SqT.of (x2 _ _ h2), atI_of h0 h4, q⟩⟩
theorem es_tix {E' : Enc δ} {t : δ} {i : Nat} {x : α} (x0 : Ex B H) (ha : EvE E' ta σ B H t) (hx : ∀ B2 v, E'.R B2 v t → ∃ a us u, v = .ref a ∧ B2 a = some (.tup us) ∧ us[i]? = some u ∧ E.R B2 u x) : EvE E (tOp (rIxT K) ta (tC (.int (i : Int)))) σ B H x :=
  es_op x0 ha (es_int x0) fun v w B2 H2 x2 hv hw => by
    obtain ⟨a, us, u, h1, h2, h3, h4⟩ := hx B2 v hv
    exact ⟨u, h4, fun Q q => ⟨a, us, (i : Int), u, h1, hw, SqT.of (x2 _ _ h2), atI_nat h3, q⟩⟩
theorem es_20 {t : α × β} (x0 : Ex B H) (ha : EvE (e2 E F) ta σ B H t) : EvE E (tOp (rIxT K) ta (tC (.int 0))) σ B H t.1 := es_tix (i := 0) x0 ha fun B2 v ⟨a, u, w, h1, h2, h3, h4⟩ => ⟨a, _, u, h1, h2, rfl, h3⟩
theorem es_21 {t : α × β} (x0 : Ex B H) (ha : EvE (e2 E F) ta σ B H t) : EvE F (tOp (rIxT K) ta (tC (.int 1))) σ B H t.2 := es_tix (i := 1) x0 ha fun B2 v ⟨a, u, w, h1, h2, h3, h4⟩ => ⟨a, _, w, h1, h2, rfl, h4⟩
theorem es_30 {t : α × β × γ} (x0 : Ex B H) (ha : EvE (e3 E F G) ta σ B H t) : EvE E (tOp (rIxT K) ta (tC (.int 0))) σ B H t.1 := es_tix (i := 0) x0 ha fun B2 v ⟨a, u, w, z, h1, h2, h3, h4, h5⟩ => ⟨a, _, u, h1, h2, rfl, h3⟩
theorem es_31 {t : α × β × γ} (x0 : Ex B H) (ha : EvE (e3 E F G) ta σ B H t) : EvE F (tOp (rIxT K) ta (tC (.int 1))) σ B H t.2.1 := es_tix (i := 1) x0 ha fun B2 v ⟨a, u, w, z, h1, h2, h3, h4, h5⟩ => ⟨a, _, w, h1, h2, rfl, h4⟩
theorem es_32 {t : α × β × γ} (x0 : Ex B H) (ha : EvE (e3 E F G) ta σ B H t) : EvE G (tOp (rIxT K) ta (tC (.int 2))) σ B H t.2.2 := es_tix (i := 2) x0 ha fun B2 v ⟨a, u, w, z, h1, h2, h3, h4, h5⟩ => ⟨a, _, z, h1, h2, rfl, h5⟩
theorem es_H0 {t : Int × Int} (x0 : Ex B H) (ha : EvE eH ta σ B H t) : EvE eI (tOp (rIxT K) ta (tC (.int 0))) σ B H t.1 := es_tix (i := 0) x0 ha fun B2 v ⟨a, r, h1, h2⟩ => ⟨a, _, _, h1, h2, rfl, rfl⟩
theorem es_H1 {t : Int × Int} (x0 : Ex B H) (ha : EvE eH ta σ B H t) : EvE eI (tOp (rIxT K) ta (tC (.int 1))) σ B H t.2 := es_tix (i := 1) x0 ha fun B2 v ⟨a, r, h1, h2⟩ => ⟨a, _, _, h1, h2, rfl, rfl⟩

/-! ### in -/
theorem eqV_int (x y : Int) : eqV (V.int x) (V.int y) = decide (x = y) := by
  unfold eqV
  first
    | rfl
    | (by_cases h : x = y <;> simp [h])
theorem inV_ints (x : Int) : ∀ ns : List Int, inV (V.int x) (ns.map V.int) = decide (x ∈ ns)
  | [] => by simp [inV]
  | n :: r => by
    have ih := inV_ints x r
    unfold inV at ih ⊢
    rw [List.map_cons, List.any_cons, ih, eqV_int]
    by_cases h : n = x
    · subst h
      simp
    · have h' : ¬ x = n := fun q => h q.symm
      simp [h, h']
theorem flat_ints : ∀ ns : List Int, (ns.map V.int).all flatV = true
  | [] => rfl
  | _ :: r => by
    rw [List.map_cons, List.all_cons, flat_ints r]
    rfl
theorem es_inT {x : Int} {ns : List Int} (x0 : Ex B H) (ha : EvE eI ta σ B H x) (hb : EvE (eT eI) tb σ B H ns) : EvE eB (tOp (rIn K false) ta tb) σ B H (decide (x ∈ ns)) :=
  es_op x0 ha hb fun v w B2 H2 x2 hv hw => ⟨_, rfl, fun Q q => by
    cases hv
    obtain ⟨a, h1, h2⟩ := eTI hw
    exact ⟨a, _, h1, .inr (SqT.of (x2 _ _ h2)), rfl, flat_ints ns, by rw [inV_ints]; exact q⟩⟩
theorem es_ninT {x : Int} {ns : List Int} (x0 : Ex B H) (ha : EvE eI ta σ B H x) (hb : EvE (eT eI) tb σ B H ns) : EvE eB (tOp (rIn K true) ta tb) σ B H (!decide (x ∈ ns)) :=
  es_op x0 ha hb fun v w B2 H2 x2 hv hw => ⟨_, rfl, fun Q q => by
    cases hv
    obtain ⟨a, h1, h2⟩ := eTI hw
    exact ⟨a, _, h1, .inr (SqT.of (x2 _ _ h2)), rfl, flat_ints ns, by rw [inV_ints]; exact q⟩⟩
theorem es_inL {x : Int} {ns : List Int} (x0 : Ex B H) (ha : EvE eI ta σ B H x) (hb : EvE (eL eI) tb σ B H ns) : EvE eB (tOp (rIn K false) ta tb) σ B H (decide (x ∈ ns)) :=
  es_op x0 ha hb fun v w B2 H2 x2 hv hw => ⟨_, rfl, fun Q q => by
    cases hv
    obtain ⟨a, h1, h2⟩ := eLI hw
    exact ⟨a, _, h1, .inl (SqL.of (x2 _ _ h2)), rfl, flat_ints ns, by rw [inV_ints]; exact q⟩⟩
theorem es_ninL {x : Int} {ns : List Int} (x0 : Ex B H) (ha : EvE eI ta σ B H x) (hb : EvE (eL eI) tb σ B H ns) : EvE eB (tOp (rIn K true) ta tb) σ B H (!decide (x ∈ ns)) :=
  es_op x0 ha hb fun v w B2 H2 x2 hv hw => ⟨_, rfl, fun Q q => by
    cases hv
    obtain ⟨a, h1, h2⟩ := eLI hw
    exact ⟨a, _, h1, .inl (SqL.of (x2 _ _ h2)), rfl, flat_ints ns, by rw [inV_ints]; exact q⟩⟩
/-- a dict's keys -/
theorem val_keys {x : Int} : ∀ {kvs : List (Key × V)} {ks : List Int}, kvs.map (·.1) = ks.map Sum.inl → (valV kvs (Sum.inl x)).isSome = decide (x ∈ ks)
  | [], [], _ => rfl
  | [], _ :: _, h => by cases h
  | _ :: _, [], h => by cases h
  | p :: r, k :: ks, h => by
    rw [List.map_cons, List.map_cons] at h
    obtain ⟨h1, h2⟩ := List.cons.inj h
    have ih := val_keys (x := x) h2
    by_cases e : k = x
    · subst e
      rw [valV_pos h1]
      simp
    · have e' : ¬ p.1 = Sum.inl x := fun q => e (Sum.inl.inj (h1.symm.trans q))
      have e2 : ¬ x = k := fun q => e q.symm
      rw [valV_neg e', ih]
      simp [e2]
theorem es_din {x : Int} {ks : List Int} (x0 : Ex B H) (ha : EvE eI ta σ B H x) (hb : EvE eD tb σ B H ks) : EvE eB (tDIn ta tb) σ B H (decide (x ∈ ks)) := fun H1 e Q k =>
  ha H1 e _ fun v x' B2 H2 t hx hR => by
    cases hx
    exact hb.up ((Stp.go x0 e).trans t) H2 (Ex.refl _) _ fun w y' B3 H3 t2 hy hR2 => by
      cases hy
      cases hR
      obtain ⟨a, kvs, h1, h2, h3⟩ := hR2
      exact ⟨a, _, h1, DGet.k (k := Sum.inl x) (t2.bh _ _ h2), by rw [val_keys h3]; exact k _ _ B3 H3 (t.trans t2) rfl rfl⟩
theorem es_dnotin {x : Int} {ks : List Int} (x0 : Ex B H) (ha : EvE eI ta σ B H x) (hb : EvE eD tb σ B H ks) : EvE eB (tDNotIn ta tb) σ B H (!decide (x ∈ ks)) := fun H1 e Q k =>
  ha H1 e _ fun v x' B2 H2 t hx hR => by
    cases hx
    exact hb.up ((Stp.go x0 e).trans t) H2 (Ex.refl _) _ fun w y' B3 H3 t2 hy hR2 => by
      cases hy
      cases hR
      obtain ⟨a, kvs, h1, h2, h3⟩ := hR2
      exact ⟨a, _, h1, DGet.k (k := Sum.inl x) (t2.bh _ _ h2), by rw [val_keys h3]; exact k _ _ B3 H3 (t.trans t2) rfl rfl⟩

/-! ### arguments, displays -/
def aN : Hp → List V → Prop := fun _ vs => vs = []
def aC (E : Enc α) (S : α → Prop) (A : Hp → List V → Prop) : Hp → List V → Prop := fun B vs => ∃ v x r, vs = v :: r ∧ S x ∧ E.R B v x ∧ A B r
def EvAr (ta : TA) (σ : L2.St) (B H : Hp) (A : Hp → List V → Prop) : Prop := ∀ H1, Ex H H1 → ∀ Q : List V → Hp → Prop, (∀ vs B2 H2, Stp B H1 B2 H2 → A B2 vs → Q vs H2) → ta σ H1 Q
def MonoA (A : Hp → List V → Prop) : Prop := ∀ (B B' : Hp) (vs : List V), Ex B B' → A B vs → A B' vs
theorem mono_aN : MonoA aN := fun _ _ _ _ h => h
theorem mono_aC {A : Hp → List V → Prop} (m : MonoA A) : MonoA (aC E S A) := fun _ _ _ e ⟨v, x, r, h1, h2, h3, h4⟩ => ⟨v, x, r, h1, h2, E.up e h3, m _ _ _ e h4⟩
variable {ar : TA} {A : Hp → List V → Prop}
theorem ea_n (x0 : Ex B H) : EvAr tNil σ B H aN := fun H1 e Q k => k [] B H1 (Stp.refl (x0.trans e)) rfl
theorem ea_c (x0 : Ex B H) (m : MonoA A) (h : EvS E te σ B H S) (hr : EvAr ar σ B H A) : EvAr (tCons te ar) σ B H (aC E S A) := fun H1 e Q k =>
  h H1 e _ fun v x B2 H2 t hS hR => by
    have s := (Stp.go x0 e).trans t
    exact hr H2 s.eh _ fun vs B3 H3 t2 hA => k (v :: vs) (jn B2 B3) H3 (t.trans (s.join (Ex.refl _) t2)) ⟨v, x, vs, rfl, hS, E.up jn_l hR, m _ _ _ (jn_r ((t.bh.trans t2.eh)) t2.bh) hA⟩
/-- all of one kind, exactly -/
theorem ea_nil' (x0 : Ex B H) : EvAr tNil σ B H (fun B vs => Paired (E.R B) vs ([] : List α)) := fun H1 e Q k => k [] B H1 (Stp.refl (x0.trans e)) .nil
theorem ea_cons' {x : α} {xs : List α} (x0 : Ex B H) (h : EvE E te σ B H x) (hr : EvAr ar σ B H (fun B vs => Paired (E.R B) vs xs)) : EvAr (tCons te ar) σ B H (fun B vs => Paired (E.R B) vs (x :: xs)) := fun H1 e Q k =>
  h H1 e _ fun v x B2 H2 t hS hR => by
    cases hS
    have s := (Stp.go x0 e).trans t
    exact hr H2 s.eh _ fun vs B3 H3 t2 hA => k (v :: vs) (jn B2 B3) H3 (t.trans (s.join (Ex.refl _) t2)) (.cons (E.up jn_l hR) (E.ups (jn_r ((t.bh.trans t2.eh)) t2.bh) hA))
theorem pl {R : V → α → Prop} {vs : List V} {xs : List α} (p : Paired R vs xs) : vs.length = xs.length := Paired.length p
theorem em_lst {xs : List α} (h : EvAr ar σ B H (fun B vs => Paired (E.R B) vs xs)) (hz : xs.length ≤ 100000) : EvM E (tLst ar) σ B H (fun ys => ys = xs) := fun H1 e Q k =>
  h H1 e _ fun vs B2 H2 t hA => ⟨sz_of (by rw [pl hA]; exact hz), fun p hp => k p vs xs B2 _ (t.trans (Stp.go t.bh (Ex.new hp))) (fresh_back t.eh hp) (fresh_back t.bh hp) upd_same rfl hA⟩
theorem em_nil (x0 : Ex B H) : EvM E (tLst tNil) σ B H (fun ys => ys = []) := em_lst (ea_nil' x0) (Nat.zero_le _)
theorem es_tupT {xs : List α} (h : EvAr ar σ B H (fun B vs => Paired (E.R B) vs xs)) (hz : xs.length ≤ 100000) : EvE (eT E) (tTup ar) σ B H xs := fun H1 e Q k =>
  h H1 e _ fun vs B2 H2 t hA => ⟨sz_of (by rw [pl hA]; exact hz), fun p hp => k (.ref p) xs (upd B2 p (.tup vs)) _ (t.trans (Stp.new t.bh hp)) rfl ⟨p, vs, rfl, upd_same, E.ups (Ex.new (fresh_back t.bh hp)) hA⟩⟩
theorem es_tup2 {T : β → Prop} (x0 : Ex B H) (ha : EvS E ta σ B H S) (hb : EvS F tb σ B H T) : EvS (e2 E F) (tTup (tCons ta (tCons tb tNil))) σ B H (fun p => S p.1 ∧ T p.2) := fun H1 e Q k =>
  ea_c (S := S) x0 (mono_aC mono_aN) ha (ea_c (S := T) x0 mono_aN hb (ea_n x0)) H1 e _ fun vs B2 H2 t hA => by
    obtain ⟨v, x, r, rfl, hS, hx, w, y, r', rfl, hT, hy, rfl⟩ := hA
    exact ⟨by show 2 ≤ sizeLine; decide, fun p hp => k (.ref p) (x, y) (upd B2 p (.tup [v, w])) _ (t.trans (Stp.new t.bh hp)) ⟨hS, hT⟩ ⟨p, v, w, rfl, upd_same, E.up (Ex.new (fresh_back t.bh hp)) hx, F.up (Ex.new (fresh_back t.bh hp)) hy⟩⟩
theorem es_tup3 {T : β → Prop} {U : γ → Prop} (x0 : Ex B H) (ha : EvS E ta σ B H S) (hb : EvS F tb σ B H T) (hc : EvS G tc σ B H U) : EvS (e3 E F G) (tTup (tCons ta (tCons tb (tCons tc tNil)))) σ B H (fun p => S p.1 ∧ T p.2.1 ∧ U p.2.2) := fun H1 e Q k =>
  ea_c x0 (mono_aC (mono_aC mono_aN)) ha (ea_c x0 (mono_aC mono_aN) hb (ea_c x0 mono_aN hc (ea_n x0))) H1 e _ fun vs B2 H2 t hA => by
    obtain ⟨v, x, r, rfl, hS, hx, w, y, r', rfl, hT, hy, u, z, r'', rfl, hU, hz, rfl⟩ := hA
    exact ⟨by show 3 ≤ sizeLine; decide, fun p hp => k (.ref p) (x, y, z) (upd B2 p (.tup [v, w, u])) _ (t.trans (Stp.new t.bh hp)) ⟨hS, hT, hU⟩ ⟨p, v, w, u, rfl, upd_same, E.up (Ex.new (fresh_back t.bh hp)) hx, F.up (Ex.new (fresh_back t.bh hp)) hy, G.up (Ex.new (fresh_back t.bh hp)) hz⟩⟩

/-! ### calls -/
/-- a def's promise: arguments that stand for an i with Pre i; it tells what stands for some y with Post i y, and changes nothing -/
def Spec {ι : Type} (A : ι → Hp → List V → Prop) (Pre : ι → Prop) (F : Enc β) (Post : ι → β → Prop) : Sp := fun vs H Q _ => ∃ (i : ι) (B : Hp), Ex B H ∧ A i B vs ∧ Pre i ∧ ∀ w y B2 H2, Stp B H B2 H2 → Post i y → F.R B2 w y → Q w H2
def SpecM {ι : Type} (A : ι → Hp → List V → Prop) (Pre : ι → Prop) (F : Enc β) (Post : ι → List β → Prop) : Sp := fun vs H Q _ => ∃ (i : ι) (B : Hp), Ex B H ∧ A i B vs ∧ Pre i ∧ ∀ p ws ys B2 H2, Stp B H B2 H2 → H p = none → B2 p = none → H2 p = some (.lst ws) → Post i ys → Paired (F.R B2) ws ys → Q (.ref p) H2
abbrev ar1 (E : Enc α) (x : α) : Hp → List V → Prop := aC E (fun y => y = x) aN
abbrev ar2 (E : Enc α) (F : Enc β) (x : α × β) : Hp → List V → Prop := aC E (fun y => y = x.1) (aC F (fun y => y = x.2) aN)
abbrev ar3 (E : Enc α) (F : Enc β) (G : Enc γ) (x : α × β × γ) : Hp → List V → Prop := aC E (fun y => y = x.1) (aC F (fun y => y = x.2.1) (aC G (fun y => y = x.2.2) aN))
abbrev ar4 (E : Enc α) (F : Enc β) (G : Enc γ) (D : Enc δ) (x : α × β × γ × δ) : Hp → List V → Prop := aC E (fun y => y = x.1) (aC F (fun y => y = x.2.1) (aC G (fun y => y = x.2.2.1) (aC D (fun y => y = x.2.2.2) aN)))
abbrev ar5 (E : Enc α) (F : Enc β) (G : Enc γ) (D : Enc δ) (C : Enc ε) (x : α × β × γ × δ × ε) : Hp → List V → Prop := aC E (fun y => y = x.1) (aC F (fun y => y = x.2.1) (aC G (fun y => y = x.2.2.1) (aC D (fun y => y = x.2.2.2.1) (aC C (fun y => y = x.2.2.2.2) aN))))
theorem es_call {ι : Type} {A : ι → Hp → List V → Prop} {Pre : ι → Prop} {Post : ι → β → Prop} {X : XK} (i : ι) (x0 : Ex B H) (h : EvAr ar σ B H (A i)) (p : Pre i) : EvS F (tCall (Spec A Pre F Post) [] X ar) σ B H (Post i) := fun H1 e Q k =>
  h H1 e _ fun vs B2 H2 t hA => ⟨i, B2, t.bh, by rw [List.append_nil]; exact hA, p, fun w y B3 H3 t2 hy hR => k w y B3 H3 (t.trans t2) hy hR⟩
theorem em_call {ι : Type} {A : ι → Hp → List V → Prop} {Pre : ι → Prop} {Post : ι → List β → Prop} {X : XK} (i : ι) (x0 : Ex B H) (h : EvAr ar σ B H (A i)) (p : Pre i) : EvM F (tCall (SpecM A Pre F Post) [] X ar) σ B H (Post i) := fun H1 e Q k =>
  h H1 e _ fun vs B2 H2 t hA => ⟨i, B2, t.bh, by rw [List.append_nil]; exact hA, p, fun p ws ys B3 H3 t2 hp bp hl hy hR => k p ws ys B3 H3 (t.trans t2) (fresh_back t.eh hp) bp hl hy hR⟩
/-- a built-in's call, one argument -/
theorem es_cb1 {r : List V → Hp → VK → Prop} {x : α} {P : γ → Prop} (x0 : Ex B H) (h : EvE E ta σ B H x) (hr : ∀ v B2 H2, Ex B2 H2 → E.R B2 v x → ∀ Q : VK, (∀ z c B3 H3, Stp B2 H2 B3 H3 → P c → G.R B3 z c → Q z H3) → r [v] H2 Q) : EvS G (tCB r (tCons ta tNil)) σ B H P := fun H1 e Q k =>
  h H1 e _ fun v x' B2 H2 t hS hR => by
    cases hS
    exact hr v B2 H2 t.bh hR Q fun z c B3 H3 t2 hc hz => k z c B3 H3 (t.trans t2) hc hz
theorem es_cb2 {r : List V → Hp → VK → Prop} {x : α} {y : β} {P : γ → Prop} (x0 : Ex B H) (h : EvE E ta σ B H x) (h2 : EvE F tb σ B H y)
    (hr : ∀ v w B2 H2, Ex B2 H2 → E.R B2 v x → F.R B2 w y → ∀ Q : VK, (∀ z c B3 H3, Stp B2 H2 B3 H3 → P c → G.R B3 z c → Q z H3) → r [v, w] H2 Q) : EvS G (tCB r (tCons ta (tCons tb tNil))) σ B H P := fun H1 e Q k =>
  h H1 e _ fun v x' B2 H2 t hS hR => by
    cases hS
    exact h2.up ((Stp.go x0 e).trans t) H2 (Ex.refl _) _ fun w y' B3 H3 t2 hy hR2 => by
      cases hy
      exact hr v w B3 H3 t2.bh (E.up t2.eb hR) hR2 Q fun z c B4 H4 t3 hc hz => k z c B4 H4 ((t.trans t2).trans t3) hc hz
theorem em_cb1 {r : List V → Hp → VK → Prop} {x : α} {P : List γ → Prop} (x0 : Ex B H) (h : EvE E ta σ B H x) (hr : ∀ v B2 H2, Ex B2 H2 → E.R B2 v x → ∀ Q : VK, (∀ p ws, (∃ ys, P ys ∧ Paired (G.R B2) ws ys) → H2 p = none → Q (.ref p) (upd H2 p (.lst ws))) → r [v] H2 Q) : EvM G (tCB r (tCons ta tNil)) σ B H P := fun H1 e Q k =>
  h H1 e _ fun v x' B2 H2 t hS hR => by
    cases hS
    exact hr v B2 H2 t.bh hR Q fun p ws ⟨ys, hP, hy⟩ hp => k p ws ys B2 _ (t.trans (Stp.go t.bh (Ex.new hp))) (fresh_back t.eh hp) (fresh_back t.bh hp) upd_same hP hy
def rListS' (K : PySem.W.Frag) : List V → Hp → VK → Prop := fun xs H Q => ∃ p ys, xs = [V.ref p] ∧ (SqL K H p ys ∨ SqT K H p ys) ∧ ∀ l, H l = none → Q (.ref l) (upd H l (.lst ys))
def rTupS' (K : PySem.W.Frag) : List V → Hp → VK → Prop := fun xs H Q => ∃ p ys, xs = [V.ref p] ∧ ((SqL K H p ys ∧ ∀ l, H l = none → Q (.ref l) (upd H l (.tup ys))) ∨ (SqT K H p ys ∧ Q (.ref p) H))
def rLenD' : List V → Hp → VK → Prop := fun xs H Q => ∃ a kvs, xs = [V.ref a] ∧ H a = some (.dK kvs) ∧ Q (.int kvs.length) H
section
variable {X : Cx}
theorem cl_len : CallR X (.builtin "len") (rLenS X.K) := call_len_seq
theorem cl_list : CallR X (.type "list") (rListS' X.K) := call_list_of
theorem cl_tuple : CallR X (.type "tuple") (rTupS' X.K) := call_tuple_of
theorem cl_lenD : CallR X (.builtin "len") rLenD' := call_lenD
end
theorem es_lenL {xs : List α} (x0 : Ex B H) (h : EvE (eL E) ta σ B H xs) : EvE eI (tCB (rLenS K) (tCons ta tNil)) σ B H (xs.length : Int) :=
  es_cb1 x0 h fun v B2 H2 x2 ⟨a, vs, h1, h2, h3⟩ Q k => ⟨a, vs, by rw [h1], .inl (SqL.of (x2 _ _ h2)), by rw [pl h3]; exact k _ _ B2 H2 (Stp.refl x2) rfl rfl⟩
theorem es_lenT {xs : List α} (x0 : Ex B H) (h : EvE (eT E) ta σ B H xs) : EvE eI (tCB (rLenS K) (tCons ta tNil)) σ B H (xs.length : Int) :=
  es_cb1 x0 h fun v B2 H2 x2 ⟨a, vs, h1, h2, h3⟩ Q k => ⟨a, vs, by rw [h1], .inr (SqT.of (x2 _ _ h2)), by rw [pl h3]; exact k _ _ B2 H2 (Stp.refl x2) rfl rfl⟩
theorem es_lenD {ks : List Int} (x0 : Ex B H) (h : EvE eD ta σ B H ks) : EvE eI (tCB rLenD' (tCons ta tNil)) σ B H (ks.length : Int) :=
  es_cb1 x0 h fun v B2 H2 x2 ⟨a, kvs, h1, h2, h3⟩ Q k => ⟨a, kvs, by rw [h1], x2 _ _ h2, by
    have e : kvs.length = ks.length := by
      have q := congrArg List.length h3
      rw [List.length_map, List.length_map] at q
      exact q
    rw [e]
    exact k _ _ B2 H2 (Stp.refl x2) rfl rfl⟩
theorem em_listL {xs : List α} (x0 : Ex B H) (h : EvE (eL E) ta σ B H xs) : EvM E (tCB (rListS' K) (tCons ta tNil)) σ B H (fun ys => ys = xs) :=
  em_cb1 x0 h fun v B2 H2 x2 ⟨a, vs, h1, h2, h3⟩ Q k => ⟨a, vs, by rw [h1], .inl (SqL.of (x2 _ _ h2)), fun l hl => k l vs ⟨xs, rfl, h3⟩ hl⟩
theorem em_listT {xs : List α} (x0 : Ex B H) (h : EvE (eT E) ta σ B H xs) : EvM E (tCB (rListS' K) (tCons ta tNil)) σ B H (fun ys => ys = xs) :=
  em_cb1 x0 h fun v B2 H2 x2 ⟨a, vs, h1, h2, h3⟩ Q k => ⟨a, vs, by rw [h1], .inr (SqT.of (x2 _ _ h2)), fun l hl => k l vs ⟨xs, rfl, h3⟩ hl⟩
theorem es_tupL {xs : List α} (x0 : Ex B H) (h : EvE (eL E) ta σ B H xs) : EvE (eT E) (tCB (rTupS' K) (tCons ta tNil)) σ B H xs :=
  es_cb1 x0 h fun v B2 H2 x2 ⟨a, vs, h1, h2, h3⟩ Q k => ⟨a, vs, by rw [h1], .inl ⟨SqL.of (x2 _ _ h2), fun l hl => k (.ref l) xs (upd B2 l (.tup vs)) _ (Stp.new x2 hl) rfl ⟨l, vs, rfl, upd_same, E.ups (Ex.new (fresh_back x2 hl)) h3⟩⟩⟩
theorem es_sum {ns : List Int} (x0 : Ex B H) (h : EvE (eL eI) ta σ B H ns) : EvE eI (tCB (rSum K) (tCons ta tNil)) σ B H ns.sum :=
  es_cb1 x0 h fun v B2 H2 x2 hR Q k => by
    obtain ⟨a, h1, h2⟩ := eLI hR
    exact ⟨a, ns, by rw [h1], SqL.of (x2 _ _ h2), k _ _ B2 H2 (Stp.refl x2) rfl rfl⟩
theorem es_min {ns : List Int} (x0 : Ex B H) (h : EvE (eL eI) ta σ B H ns) (hz : 0 < ns.length) : EvS eI (tCB (rMin K) (tCons ta tNil)) σ B H (fun m => m ∈ ns ∧ ∀ y ∈ ns, m ≤ y) :=
  es_cb1 x0 h fun v B2 H2 x2 hR Q k => by
    obtain ⟨a, h1, h2⟩ := eLI hR
    exact ⟨a, ns, by rw [h1], SqL.of (x2 _ _ h2), hz, fun m hm hle => k _ _ B2 H2 (Stp.refl x2) ⟨hm, hle⟩ rfl⟩
end
end RR
namespace RR
open PySem L2 Evl
section
variable {α β γ δ ε : Type} {E : Enc α} {F : Enc β} {G : Enc γ}
variable {te ta tb tc tl : TE} {tt : TT} {σ : L2.St} {B H B0 H0 B1 H1 : Hp} {S : α → Prop} {K : PySem.W.Frag}

/-! ### comprehensions -/
/-- what holds ahead of turn i: D is where the new list stands -/
def Lw (F : Enc β) (Tr : α → β → Prop) (p : α → Bool) (B1 H1 : Hp) (D : Addr) (xs : List α) (i : Nat) (H' : Hp) : Prop :=
  ∃ B' acc ys, Stp B1 H1 B' H' ∧ Cell H1 B' H' D (.lst acc) ∧ Paired (F.R B') acc ys ∧ Paired Tr ((xs.take i).filter p) ys ∧ acc.length ≤ i
theorem lw_start {Tr : α → β → Prop} {p : α → Bool} {D : Addr} {xs : List α} (x1 : Ex B1 H1) (hD : H1 D = none) : Lw F Tr p B1 H1 D xs 0 (upd H1 D (.lst [])) :=
  ⟨B1, [], [], Stp.go x1 (Ex.new hD), ⟨hD, fresh_back x1 hD, upd_same⟩, .nil, .nil, Nat.le_refl _⟩
theorem lw_turn {Tr : α → β → Prop} {p : α → Bool} {D : Addr} {xs : List α} {i : Nat} {H' : Hp} {x : α} {σ2 : L2.St} (hw : Lw F Tr p B1 H1 D xs i H') (hx : xs[i]? = some x) (hz : i < 50000)
    (ht : ∀ B' , Stp B1 H1 B' H' → EvT tt σ2 H' (p x)) (he : p x = true → ∀ B', Stp B1 H1 B' H' → EvS F te σ2 B' H' (Tr x)) :
    tt σ2 H' fun b H3 => if b = true then te σ2 H3 fun y H4 => ∃ acc, H4 D = some (.lst acc) ∧ acc.length < sizeLine ∧ Lw F Tr p B1 H1 D xs (i + 1) (upd H4 D (.lst (acc ++ [y]))) else Lw F Tr p B1 H1 D xs (i + 1) H3 := by
  obtain ⟨B', acc, ys, s, c, h1, h2, h3⟩ := hw
  refine ht B' s H' (Ex.refl _) _ fun H3 e3 => ?_
  have tk := take_succ_filter p xs i x hx
  cases hp : p x with
  | true =>
    rw [hp] at tk
    refine iteT (he hp B' s H3 e3 _ fun y yy B4 H4 t4 hT hR => ⟨acc, t4.eh _ _ (e3 _ _ c.h), sz_lt (by omega), B4, acc ++ [y], ys ++ [yy], ?_, ?_, ?_, ?_, ?_⟩)
    · exact ((c.go e3).up t4).mut ((s.goH e3).trans t4)
    · exact ((c.go e3).up t4).same
    · exact Paired.snoc (F.ups t4.eb h1) hR
    · rw [tk, if_pos rfl]
      exact Paired.snoc h2 hT
    · rw [List.length_append, List.length_singleton]
      omega
  | false =>
    rw [hp] at tk
    refine iteF ⟨B', acc, ys, s.goH e3, c.go e3, h1, ?_, by omega⟩
    rw [tk, if_neg Bool.false_ne_true, List.append_nil]
    exact h2
theorem em_lcL {xs : List α} {p : α → Bool} {Tr : α → β → Prop} {j : Nat} {vs : List Nat} (x0 : Ex B H) (h : EvE (eL E) tl σ B H xs) (hz : xs.length ≤ 40000)
    (hw : ∀ v, wipe ((wipe σ vs).set j (some v)) vs = wipe σ vs)
    (ht : ∀ x v B1 H1, Stp B H B1 H1 → x ∈ xs → E.R B1 v x → EvT tt ((wipe σ vs).set j (some v)) H1 (p x))
    (he : ∀ x v B1 H1, Stp B H B1 H1 → x ∈ xs → E.R B1 v x → p x = true → EvS F te ((wipe σ vs).set j (some v)) B1 H1 (Tr x)) :
    EvM F (tLc (iList K tl) (gName j) tt te vs) σ B H (fun ys => Paired Tr (xs.filter p) ys) := fun H0 e Q k =>
  h H0 e _ fun v x' B1 H1 t hx hR => by
    cases hx
    obtain ⟨a, ws, rfl, h2, h3⟩ := hR
    have s0 := (Stp.go x0 e).trans t
    refine ⟨a, rfl, ⟨ws, SqL.of (t.bh _ _ h2)⟩, fun D hD => lc_list (xs := ws) (Lw F Tr p B1 H1 D xs) (lw_start t.bh hD) (fun i H' hi hP => ?_) (fun i w H' hi hP => ?_) (fun H' hP => ?_)⟩
    · obtain ⟨B', acc, ys, s, _⟩ := hP
      exact SqL.of (s.bh _ _ (s.eb _ _ h2))
    · obtain ⟨x, hx, hr⟩ := pgetV h3 hi
      have hm : x ∈ xs := List.mem_of_getElem? hx
      exact ⟨hw w, lw_turn hP hx (by have := (List.getElem?_eq_some_iff.mp hx).1; omega) (fun B' s => ht x w B' H' (s0.trans s) hm (E.up s.eb hr)) (fun hp B' s => he x w B' H' (s0.trans s) hm (E.up s.eb hr) hp)⟩
    · obtain ⟨B', acc, ys, s, c, q1, q2, q3⟩ := hP
      rw [pl h3, List.take_length] at q2
      exact k D acc ys B' H' (t.trans s) (fresh_back t.eh hD) c.b c.h q2 q1
theorem em_lcT {xs : List α} {p : α → Bool} {Tr : α → β → Prop} {j : Nat} {vs : List Nat} (x0 : Ex B H) (h : EvE (eT E) tl σ B H xs) (hz : xs.length ≤ 40000)
    (hw : ∀ v, wipe ((wipe σ vs).set j (some v)) vs = wipe σ vs)
    (ht : ∀ x v B1 H1, Stp B H B1 H1 → x ∈ xs → E.R B1 v x → EvT tt ((wipe σ vs).set j (some v)) H1 (p x))
    (he : ∀ x v B1 H1, Stp B H B1 H1 → x ∈ xs → E.R B1 v x → p x = true → EvS F te ((wipe σ vs).set j (some v)) B1 H1 (Tr x)) :
    EvM F (tLc (iTup K tl) (gName j) tt te vs) σ B H (fun ys => Paired Tr (xs.filter p) ys) := fun H0 e Q k =>
  h H0 e _ fun v x' B1 H1 t hx hR => by
    cases hx
    obtain ⟨a, ws, rfl, h2, h3⟩ := hR
    have s0 := (Stp.go x0 e).trans t
    refine ⟨a, rfl, ⟨ws, SqT.of (t.bh _ _ h2)⟩, fun D hD => lc_tup (xs := ws) (Lw F Tr p B1 H1 D xs) (lw_start t.bh hD) (fun i H' hi hP => ?_) (fun i w H' hi hP => ?_) (fun H' hP => ?_)⟩
    · obtain ⟨B', acc, ys, s, _⟩ := hP
      exact SqT.of (s.bh _ _ (s.eb _ _ h2))
    · obtain ⟨x, hx, hr⟩ := pgetV h3 hi
      have hm : x ∈ xs := List.mem_of_getElem? hx
      exact ⟨hw w, lw_turn hP hx (by have := (List.getElem?_eq_some_iff.mp hx).1; omega) (fun B' s => ht x w B' H' (s0.trans s) hm (E.up s.eb hr)) (fun hp B' s => he x w B' H' (s0.trans s) hm (E.up s.eb hr) hp)⟩
    · obtain ⟨B', acc, ys, s, c, q1, q2, q3⟩ := hP
      rw [pl h3, List.take_length] at q2
      exact k D acc ys B' H' (t.trans s) (fresh_back t.eh hD) c.b c.h q2 q1
/-- over a list of ints that H knows (it may be one that changes) -/
theorem em_lcH {ns : List Int} {p : Int → Bool} {Tr : Int → β → Prop} {j : Nat} {vs : List Nat} (x0 : Ex B H) (h : EvE (eL eI) tl σ H H ns) (hz : ns.length ≤ 40000)
    (hw : ∀ v, wipe ((wipe σ vs).set j (some v)) vs = wipe σ vs)
    (ht : ∀ n B1 H1, Stp B H B1 H1 → n ∈ ns → EvT tt ((wipe σ vs).set j (some (.int n))) H1 (p n))
    (he : ∀ n B1 H1, Stp B H B1 H1 → n ∈ ns → p n = true → EvS F te ((wipe σ vs).set j (some (.int n))) B1 H1 (Tr n)) :
    EvM F (tLc (iList K tl) (gName j) tt te vs) σ B H (fun ys => Paired Tr (ns.filter p) ys) := fun H0 e Q k =>
  h H0 e _ fun v x' C1 H1 t hx hR => by
    cases hx
    obtain ⟨a, rfl, h2⟩ := eLI hR
    have e1 : Ex H H1 := e.trans t.eh
    have s0 : Stp B H B H1 := Stp.go x0 e1
    refine ⟨a, rfl, ⟨_, SqL.of (t.bh _ _ h2)⟩, fun D hD => lc_list (xs := ns.map V.int) (Lw F Tr p B H1 D ns) (lw_start (x0.trans e1) hD) (fun i H' hi hP => ?_) (fun i w H' hi hP => ?_) (fun H' hP => ?_)⟩
    · obtain ⟨B', acc, ys, s, _⟩ := hP
      exact SqL.of (s.eh _ _ (t.bh _ _ h2))
    · obtain ⟨n, hx, hr⟩ := pgetV (pI' (H := H) ns) hi
      cases hr
      have hm : n ∈ ns := List.mem_of_getElem? hx
      exact ⟨hw _, lw_turn hP hx (by have := (List.getElem?_eq_some_iff.mp hx).1; omega) (fun B' s => ht n B' H' (s0.trans s) hm) (fun hp B' s => he n B' H' (s0.trans s) hm hp)⟩
    · obtain ⟨B', acc, ys, s, c, q1, q2, q3⟩ := hP
      rw [List.length_map, List.take_length] at q2
      exact k D acc ys B' H' ((Stp.go (x0.trans e) t.eh).trans s) (fresh_back t.eh hD) c.b c.h q2 q1
/-- nought, one, .. below n -/
def rg (n : Int) : List Int := (List.range n.toNat).map fun (k : Nat) => (k : Int)
theorem rg_len (n : Int) : (rg n).length = n.toNat := by
  unfold rg
  rw [List.length_map, List.length_range]
theorem rg_get {n : Int} {i : Nat} (h : i < n.toNat) : (rg n)[i]? = some (i : Int) := by
  unfold rg
  rw [List.getElem?_map, List.getElem?_range h]
  rfl
theorem mem_rg {n k : Int} : k ∈ rg n ↔ 0 ≤ k ∧ k < n := by
  unfold rg
  rw [List.mem_map]
  constructor
  · rintro ⟨a, ha, rfl⟩
    rw [List.mem_range] at ha
    omega
  · rintro ⟨h0, h1⟩
    exact ⟨k.toNat, by rw [List.mem_range]; omega, by omega⟩
theorem em_lcR {n : Int} {p : Int → Bool} {Tr : Int → β → Prop} {j : Nat} {vs : List Nat} (x0 : Ex B H) (h : EvE eI tl σ B H n) (hz : n ≤ 40000) (hz' : -40000 ≤ n)
    (hw : ∀ v, wipe ((wipe σ vs).set j (some v)) vs = wipe σ vs)
    (ht : ∀ (k : Int) B1 H1, Stp B H B1 H1 → 0 ≤ k → k < n → EvT tt ((wipe σ vs).set j (some (.int k))) H1 (p k))
    (he : ∀ (k : Int) B1 H1, Stp B H B1 H1 → 0 ≤ k → k < n → p k = true → EvS F te ((wipe σ vs).set j (some (.int k))) B1 H1 (Tr k)) :
    EvM F (tLc (iRng1 (tCons tl tNil)) (gName j) tt te vs) σ B H (fun ys => Paired Tr ((rg n).filter p) ys) := fun H0 e Q k =>
  h H0 e _ fun v x' B1 H1 t hx hR => by
    cases hx
    cases hR
    have s0 := (Stp.go x0 e).trans t
    refine ⟨n, rfl, by omega, by omega, fun D hD => lc_range (lo := 0) (n := n.toNat) (Lw F Tr p B1 H1 D (rg n)) (lw_start t.bh hD) (fun i H' hi hP => ?_) (fun H' hP => ?_)⟩
    · have e0 : (0 : Int) + (i : Int) = (i : Int) := Int.zero_add _
      rw [e0]
      exact ⟨hw _, lw_turn hP (rg_get hi) (by omega) (fun B' s => ht i B' H' (s0.trans s) (by omega) (by omega)) (fun hp B' s => he i B' H' (s0.trans s) (by omega) (by omega) hp)⟩
    · obtain ⟨B', acc, ys, s, c, q1, q2, q3⟩ := hP
      rw [← rg_len n, List.take_length] at q2
      exact k D acc ys B' H' (t.trans s) (fresh_back t.eh hD) c.b c.h q2 q1
theorem et_yes {σ : L2.St} {H : Hp} : EvT tYes σ H true := fun H1 e Q q => q H1 (Ex.refl _)
theorem pair_fun {f : α → β} : ∀ {xs : List α} {ys : List β}, Paired (fun x y => y = f x) xs ys → ys = xs.map f
  | _, _, .nil => rfl
  | _, _, .cons r t => by
    rw [pair_fun t, r]
    rfl
theorem filter_yes (xs : List α) : xs.filter (fun _ => true) = xs := by
  induction xs with
  | nil => rfl
  | cons x r ih => rw [List.filter_cons, if_pos rfl, ih]

/-! ### slices, joins -/
def cutP (xs : List α) (lo hi : Option Int) : List α := (xs.drop (HT.sIx xs.length 0 lo)).take (HT.sIx xs.length xs.length hi - HT.sIx xs.length 0 lo)
theorem pcut {R : V → α → Prop} {vs : List V} {xs : List α} (lo hi : Option Int) (p : Paired R vs xs) : Paired R (cutV vs lo hi) (cutP xs lo hi) := by
  unfold cutV cutP
  rw [pl p]
  exact ptake _ (pdrop _ p)
def EvO' (to : TO) (σ : L2.St) (H : Hp) (o : Option Int) : Prop := EvO to σ H o
theorem em_slL {to1 to2 : TO} {xs : List α} {lo hi : Option Int} (x0 : Ex B H) (h : EvE (eL E) te σ B H xs) (h1 : EvO to1 σ H lo) (h2 : EvO to2 σ H hi) : EvM E (tSl (rSlL K) te to1 to2) σ B H (fun ys => ys = cutP xs lo hi) := fun H1 e Q k =>
  h H1 e _ fun v x' B2 H2 t hx hR => by
    cases hx
    obtain ⟨a, vs, rfl, q2, q3⟩ := hR
    refine h1 H2 (e.trans t.eh) _ fun H3 e3 => h2 H3 ((e.trans t.eh).trans e3) _ fun H4 e4 => ⟨a, vs, rfl, SqL.of (e4 _ _ (e3 _ _ (t.bh _ _ q2))), fun p hp => ?_⟩
    have s := t.goH (e3.trans e4)
    exact k p _ _ B2 _ (s.goH (Ex.new hp)) (fresh_back s.eh hp) (fresh_back s.bh hp) upd_same rfl (pcut lo hi q3)
theorem eo_some' {i : Int} (h : EvE eI te σ B H i) : EvO (tPart te) σ H (some i) := eo_some (ev_sI h)
theorem em_cat {xs ys : List α} (x0 : Ex B H) (ha : EvE (eL E) ta σ B H xs) (hb : EvE (eL E) tb σ B H ys) (hz : xs.length + ys.length ≤ 100000) : EvM E (tOp rCat ta tb) σ B H (fun zs => zs = xs ++ ys) := fun H1 e Q k =>
  ha H1 e _ fun v x' B2 H2 t hx hR => by
    cases hx
    exact hb.up ((Stp.go x0 e).trans t) H2 (Ex.refl _) _ fun w y' B3 H3 t2 hy hR2 => by
      cases hy
      obtain ⟨a, vs, rfl, q2, q3⟩ := hR
      obtain ⟨b, ws, rfl, q5, q6⟩ := hR2
      refine ⟨a, b, vs, ws, rfl, rfl, t2.bh _ _ (t2.eb _ _ q2), t2.bh _ _ q5, sz_of (by rw [pl q3, pl q6]; exact hz), fun p hp => ?_⟩
      have s := t.trans t2
      exact k p _ _ B3 _ (s.goH (Ex.new hp)) (fresh_back s.eh hp) (fresh_back s.bh hp) upd_same rfl (papp (E.ups t2.eb q3) q6)

/-! ### statements -/
variable {D : Ends} {tu tw tz : TS} {g : TG} {i : Nat}
theorem q_setI {n : Int} (h : EvE eI te σ B H n) (k : ∀ H1, Ex H H1 → tz D (σ.set i (some (.int n))) H1) : tSeq (tAsg te (gName i)) tz D σ H := q_asg (ev_sI h) k
theorem q_setB {b : Bool} (h : EvE eB te σ B H b) (k : ∀ H1, Ex H H1 → tz D (σ.set i (some (.bl b))) H1) : tSeq (tAsg te (gName i)) tz D σ H := q_asg (ev_sB h) k
theorem q_setS (h : EvS E te σ B H S) (k : ∀ v x B1 H1, Stp B H B1 H1 → S x → E.R B1 v x → tz D (σ.set i (some v)) H1) : tSeq (tAsg te (gName i)) tz D σ H :=
  h H (Ex.refl _) _ fun v x B1 H1 s hS hR => k v x B1 H1 s hS hR
theorem q_setM {S : List α → Prop} (h : EvM E te σ B H S) (k : ∀ p vs xs B1 H1, Stp B H B1 H1 → H p = none → B1 p = none → H1 p = some (.lst vs) → S xs → Paired (E.R B1) vs xs → tz D (σ.set i (some (.ref p))) H1) : tSeq (tAsg te (gName i)) tz D σ H :=
  h H (Ex.refl _) _ fun p vs xs B1 H1 s hp bp hl hS hR => k p vs xs B1 H1 s hp bp hl hS hR
theorem q_retS (h : EvS E te σ B H S) (k : ∀ v x B1 H1, Stp B H B1 H1 → S x → E.R B1 v x → D.rt v H1) : tRet te D σ H :=
  h H (Ex.refl _) _ fun v x B1 H1 s hS hR => k v x B1 H1 s hS hR
theorem q_retM {S : List α → Prop} (h : EvM E te σ B H S) (k : ∀ p vs xs B1 H1, Stp B H B1 H1 → H p = none → B1 p = none → H1 p = some (.lst vs) → S xs → Paired (E.R B1) vs xs → D.rt (.ref p) H1) : tRet te D σ H :=
  h H (Ex.refl _) _ fun p vs xs B1 H1 s hp bp hl hS hR => k p vs xs B1 H1 s hp bp hl hS hR
theorem q_dropS (h : EvS E te σ B H S) (k : ∀ v x B1 H1, Stp B H B1 H1 → S x → E.R B1 v x → tz D σ H1) : tSeq (tDrop te) tz D σ H :=
  h H (Ex.refl _) _ fun v x B1 H1 s hS hR => k v x B1 H1 s hS hR
/-- xs.append(e) of one's own list -/
theorem c_app {l : Addr} {xs : List V} (c : Cell H0 B H l (.lst xs)) (s0 : Stp B0 H0 B H) (ho : σ[i]? = some (some (.ref l))) (hz : xs.length < 100000) (h : EvS E te σ B H S)
    (k : ∀ v x B1 H1, Stp B0 H0 B1 H1 → Ex B B1 → Cell H0 B1 H1 l (.lst (xs ++ [v])) → (∀ p o, p ≠ l → Cell H0 B H p o → Cell H0 B1 H1 p o) → S x → E.R B1 v x → D.nx σ H1) :
    tDrop (tBM K "list" rAppend (tVar i) (tCons te tNil)) D σ H :=
  ⟨.ref l, ho, Or.inl ⟨rfl, xs, SqL.of c.h⟩, h H (Ex.refl _) _ fun v x B1 H1 s hS hR => ⟨l, xs, v, rfl, rfl, s.eh _ _ c.h, sz_lt hz,
    k v x B1 _ ((c.up s).mut (s0.trans s)) s.eb (c.up s).same (fun p o ne d => (d.up s).other ne) hS hR⟩⟩
theorem q_app {l : Addr} {xs : List V} (c : Cell H0 B H l (.lst xs)) (s0 : Stp B0 H0 B H) (ho : σ[i]? = some (some (.ref l))) (hz : xs.length < 100000) (h : EvS E te σ B H S)
    (k : ∀ v x B1 H1, Stp B0 H0 B1 H1 → Ex B B1 → Cell H0 B1 H1 l (.lst (xs ++ [v])) → (∀ p o, p ≠ l → Cell H0 B H p o → Cell H0 B1 H1 p o) → S x → E.R B1 v x → tz D σ H1) :
    tSeq (tDrop (tBM K "list" rAppend (tVar i) (tCons te tNil))) tz D σ H := c_app (D := { D with nx := tz D }) c s0 ho hz h k
/-- a loop over a list: W tells what holds ahead of each turn -/
theorem c_forL {T : List α → Prop} (h : EvS (eL E) tl σ B H T) (W : List α → Hp → Nat → L2.St → Hp → Prop)
    (h0 : ∀ xs B1 H1, Stp B H B1 H1 → T xs → W xs B1 0 σ H1) (hb : ∀ xs B1 i σ' H', W xs B1 i σ' H' → Ex B1 H')
    (hs : ∀ xs B1 i x v σ' H', T xs → Ex B B1 → xs[i]? = some x → E.R B1 v x → W xs B1 i σ' H' → g v σ' H' fun σ2 H2 => tu { D with nx := W xs B1 (i + 1), ct := W xs B1 (i + 1), bk := D.nx } σ2 H2)
    (hd : ∀ xs B1 σ' H', T xs → Ex B B1 → W xs B1 xs.length σ' H' → D.nx σ' H') : tFor (iList K tl) g tu D σ H :=
  h H (Ex.refl _) _ fun v xs B1 H1 s hT ⟨a, ws, e1, h2, h3⟩ => ⟨a, e1, ⟨ws, SqL.of (s.bh _ _ h2)⟩, for_list (xs := ws) (W xs B1) (h0 xs B1 H1 s hT) (fun i σ' H' _ p => SqL.of (hb _ _ _ _ _ p _ _ h2)) (fun i w σ' H' hi p => by
    obtain ⟨x, hx, hr⟩ := pgetV h3 hi
    exact hs xs B1 i x w σ' H' hT s.eb hx hr p) (fun σ' H' p => hd xs B1 σ' H' hT s.eb (by rw [← pl h3]; exact p))⟩
theorem q_forL {T : List α → Prop} (h : EvS (eL E) tl σ B H T) (W : List α → Hp → Nat → L2.St → Hp → Prop)
    (h0 : ∀ xs B1 H1, Stp B H B1 H1 → T xs → W xs B1 0 σ H1) (hb : ∀ xs B1 i σ' H', W xs B1 i σ' H' → Ex B1 H')
    (hs : ∀ xs B1 i x v σ' H', T xs → Ex B B1 → xs[i]? = some x → E.R B1 v x → W xs B1 i σ' H' → g v σ' H' fun σ2 H2 => tu { D with nx := W xs B1 (i + 1), ct := W xs B1 (i + 1), bk := tz D } σ2 H2)
    (hd : ∀ xs B1 σ' H', T xs → Ex B B1 → W xs B1 xs.length σ' H' → tz D σ' H') : tSeq (tFor (iList K tl) g tu) tz D σ H :=
  c_forL (D := { D with nx := tz D }) h W h0 hb hs hd
/-- over a list that B knows -/
theorem c_forE {xs : List α} (x0 : Ex B H) (h : ∃ v, Ev tl σ H v ∧ (eL E).R B v xs) (W : Nat → L2.St → Hp → Prop)
    (h0 : ∀ H1, Ex H H1 → W 0 σ H1) (hb : ∀ i σ' H', W i σ' H' → Ex B H')
    (hs : ∀ i x v σ' H', xs[i]? = some x → E.R B v x → W i σ' H' → g v σ' H' fun σ2 H2 => tu { D with nx := W (i + 1), ct := W (i + 1), bk := D.nx } σ2 H2)
    (hd : ∀ σ' H', W xs.length σ' H' → D.nx σ' H') : tFor (iList K tl) g tu D σ H := by
  obtain ⟨v, hv, a, ws, e1, h2, h3⟩ := h
  exact hv H (Ex.refl _) _ fun H1 e => ⟨a, e1, ⟨ws, SqL.of (e _ _ (x0 _ _ h2))⟩, for_list (xs := ws) W (h0 H1 e) (fun i σ' H' _ p => SqL.of (hb _ _ _ p _ _ h2)) (fun i w σ' H' hi p => by
    obtain ⟨x, hx, hr⟩ := pgetV h3 hi
    exact hs i x w σ' H' hx hr p) (fun σ' H' p => hd σ' H' (by rw [← pl h3]; exact p))⟩
theorem q_forE {xs : List α} (x0 : Ex B H) (h : ∃ v, Ev tl σ H v ∧ (eL E).R B v xs) (W : Nat → L2.St → Hp → Prop)
    (h0 : ∀ H1, Ex H H1 → W 0 σ H1) (hb : ∀ i σ' H', W i σ' H' → Ex B H')
    (hs : ∀ i x v σ' H', xs[i]? = some x → E.R B v x → W i σ' H' → g v σ' H' fun σ2 H2 => tu { D with nx := W (i + 1), ct := W (i + 1), bk := tz D } σ2 H2)
    (hd : ∀ σ' H', W xs.length σ' H' → tz D σ' H') : tSeq (tFor (iList K tl) g tu) tz D σ H :=
  c_forE (D := { D with nx := tz D }) x0 h W h0 hb hs hd
theorem c_forTE {xs : List α} (x0 : Ex B H) (h : ∃ v, Ev tl σ H v ∧ (eT E).R B v xs) (W : Nat → L2.St → Hp → Prop)
    (h0 : ∀ H1, Ex H H1 → W 0 σ H1) (hb : ∀ i σ' H', W i σ' H' → Ex B H')
    (hs : ∀ i x v σ' H', xs[i]? = some x → E.R B v x → W i σ' H' → g v σ' H' fun σ2 H2 => tu { D with nx := W (i + 1), ct := W (i + 1), bk := D.nx } σ2 H2)
    (hd : ∀ σ' H', W xs.length σ' H' → D.nx σ' H') : tFor (iTup K tl) g tu D σ H := by
  obtain ⟨v, hv, a, ws, e1, h2, h3⟩ := h
  exact hv H (Ex.refl _) _ fun H1 e => ⟨a, e1, ⟨ws, SqT.of (e _ _ (x0 _ _ h2))⟩, for_tup (xs := ws) W (h0 H1 e) (fun i σ' H' _ p => SqT.of (hb _ _ _ p _ _ h2)) (fun i w σ' H' hi p => by
    obtain ⟨x, hx, hr⟩ := pgetV h3 hi
    exact hs i x w σ' H' hx hr p) (fun σ' H' p => hd σ' H' (by rw [← pl h3]; exact p))⟩
/-- range(n) -/
theorem c_forR {n : Int} {j : Nat} (h : EvE eI te σ B H n) (hn : -100000 ≤ n ∧ n ≤ 100000) (W : Nat → L2.St → Hp → Prop)
    (h0 : ∀ H1, Ex H H1 → W 0 σ H1) (hs : ∀ (i : Nat) σ' H', (i : Int) < n → W i σ' H' → tu { D with nx := W (i + 1), ct := W (i + 1), bk := D.nx } (σ'.set j (some (.int (i : Int)))) H')
    (hd : ∀ σ' H', W n.toNat σ' H' → D.nx σ' H') : tFor (iRng1 (tCons te tNil)) (gName j) tu D σ H :=
  ev_sI h H (Ex.refl H) _ fun H1 e => ⟨n, rfl, by omega, by omega, for_range (lo := 0) (n := n.toNat) W (h0 H1 e) (fun i σ' H' hi p => by
    have e0 : (0 : Int) + (i : Int) = (i : Int) := Int.zero_add _
    show tu { D with nx := W (i + 1), ct := W (i + 1), bk := D.nx } (σ'.set j (some (.int ((0 : Int) + (i : Int))))) H'
    rw [e0]
    exact hs i σ' H' (by omega) p) hd⟩
theorem q_forR {n : Int} {j : Nat} (h : EvE eI te σ B H n) (hn : -100000 ≤ n ∧ n ≤ 100000) (W : Nat → L2.St → Hp → Prop)
    (h0 : ∀ H1, Ex H H1 → W 0 σ H1) (hs : ∀ (i : Nat) σ' H', (i : Int) < n → W i σ' H' → tu { D with nx := W (i + 1), ct := W (i + 1), bk := tz D } (σ'.set j (some (.int (i : Int)))) H')
    (hd : ∀ σ' H', W n.toNat σ' H' → tz D σ' H') : tSeq (tFor (iRng1 (tCons te tNil)) (gName j) tu) tz D σ H :=
  c_forR (D := { D with nx := tz D }) h hn W h0 hs hd
theorem c_forR2 {lo n : Int} {j : Nat} (h1 : EvE eI ta σ B H lo) (h : EvE eI te σ B H n) (hn : 0 ≤ lo ∧ lo ≤ 100000 ∧ -100000 ≤ n ∧ n ≤ 100000) (W : Nat → L2.St → Hp → Prop)
    (h0 : ∀ H1, Ex H H1 → W 0 σ H1) (hs : ∀ (i : Nat) σ' H', lo + (i : Int) < n → W i σ' H' → tu { D with nx := W (i + 1), ct := W (i + 1), bk := D.nx } (σ'.set j (some (.int (lo + (i : Int))))) H')
    (hd : ∀ σ' H', W (n - lo).toNat σ' H' → D.nx σ' H') : tFor (iRng2 (tCons ta (tCons te tNil))) (gName j) tu D σ H :=
  s_forR2 (ea_cons (ev_sI h1) (ea_cons (ev_sI h) ea_nil)) hn W h0 hs hd
theorem q_forR2' {lo n : Int} {j : Nat} (h1 : EvE eI ta σ B H lo) (h : EvE eI te σ B H n) (hn : 0 ≤ lo ∧ lo ≤ 100000 ∧ -100000 ≤ n ∧ n ≤ 100000) (W : Nat → L2.St → Hp → Prop)
    (h0 : ∀ H1, Ex H H1 → W 0 σ H1) (hs : ∀ (i : Nat) σ' H', lo + (i : Int) < n → W i σ' H' → tu { D with nx := W (i + 1), ct := W (i + 1), bk := tz D } (σ'.set j (some (.int (lo + (i : Int))))) H')
    (hd : ∀ σ' H', W (n - lo).toNat σ' H' → tz D σ' H') : tSeq (tFor (iRng2 (tCons ta (tCons te tNil))) (gName j) tu) tz D σ H :=
  c_forR2 (D := { D with nx := tz D }) h1 h hn W h0 hs hd
/-- enumerate: each turn a new pair -/
theorem for_enum {a : Addr} {xs : List V} {g : TG} {tb : TS} {D : Ends} {σ : L2.St} {H : Hp} (Pv : Nat → L2.St → Hp → Prop) (h0 : Pv 0 σ H) (hl : ∀ i σ H, i ≤ xs.length → Pv i σ H → SqL K H a xs)
    (hs : ∀ i x σ H p, xs[i]? = some x → Pv i σ H → H p = none → g (.ref p) σ (upd H p (.tup [.int (i : Nat), x])) fun σ2 H2 => tb { D with nx := Pv (i + 1), ct := Pv (i + 1), bk := D.nx } σ2 H2) (hd : ∀ σ H, Pv xs.length σ H → D.nx σ H) :
    ∃ W : Nat → Nat → L2.St → Hp → Prop, (∃ m, W 0 m σ H) ∧ ∀ i m σ H, W i m σ H →
      ((Ite K a).stop i H ∧ D.nx σ H) ∨ ((Ite K a).go i H ∧ ∃ N : L2.St → Hp → Prop, (∀ σ' H', N σ' H' → ∃ m', m' < m ∧ W (i + 1) m' σ' H') ∧ ∀ x H', (Ite K a).yld i H x H' → g x σ H' fun σ2 H2 => tb { D with nx := N, ct := N, bk := D.nx } σ2 H2) := by
  refine ⟨fun i m σ H => m = xs.length - i ∧ i ≤ xs.length ∧ Pv i σ H, ⟨xs.length, by simp, Nat.zero_le _, h0⟩, ?_⟩
  rintro i m σ H ⟨rfl, hi, p⟩
  have q := hl i σ H hi p
  by_cases hlt : i < xs.length
  · refine .inr ⟨⟨xs, xs[i], q, by simp [hlt]⟩, Pv (i + 1), fun σ' H' p' => ⟨xs.length - (i + 1), by omega, rfl, hlt, p'⟩, fun x H' y => ?_⟩
    obtain ⟨T, z, e1, hT, e2, y⟩ := y
    subst e1
    subst e2
    exact hs i z σ H T (y xs q) p hT
  · have e : i = xs.length := by omega
    subst e
    exact .inl ⟨⟨xs, q, Nat.le_refl _⟩, hd σ H p⟩
theorem c_forEn {xs : List α} {j l : Nat} (x0 : Ex B H) (h : ∃ v, Ev tl σ H v ∧ (eL E).R B v xs) (W : Nat → L2.St → Hp → Prop)
    (h0 : ∀ H1, Ex H H1 → W 0 σ H1) (hb : ∀ i σ' H', W i σ' H' → Ex B H')
    (hs : ∀ i x v σ' H' H2, xs[i]? = some x → E.R B v x → W i σ' H' → Ex H' H2 → tu { D with nx := W (i + 1), ct := W (i + 1), bk := D.nx } ((σ'.set j (some (.int (i : Int)))).set l (some v)) H2)
    (hd : ∀ σ' H', W xs.length σ' H' → D.nx σ' H') : tFor (iEnum K (tCons tl tNil)) (gTup K 2 (gCons (gName j) (gCons (gName l) gNil))) tu D σ H := by
  obtain ⟨v, hv, a, ws, e1, h2, h3⟩ := h
  exact hv H (Ex.refl _) _ fun H1 e => ⟨a, ws, by rw [e1], SqL.of (e _ _ (x0 _ _ h2)), for_enum (xs := ws) W (h0 H1 e) (fun i σ' H' _ p => SqL.of (hb _ _ _ p _ _ h2)) (fun i w σ' H' p hi hP hp => by
    obtain ⟨x, hx, hr⟩ := pgetV h3 hi
    exact ⟨p, _, rfl, SqT.of upd_same, rfl, _, _, rfl, _, _, rfl, rfl, hs i x w σ' H' _ hx hr hP (Ex.new hp)⟩) (fun σ' H' p => hd σ' H' (by rw [← pl h3]; exact p))⟩
theorem q_forEn {xs : List α} {j l : Nat} (x0 : Ex B H) (h : ∃ v, Ev tl σ H v ∧ (eL E).R B v xs) (W : Nat → L2.St → Hp → Prop)
    (h0 : ∀ H1, Ex H H1 → W 0 σ H1) (hb : ∀ i σ' H', W i σ' H' → Ex B H')
    (hs : ∀ i x v σ' H' H2, xs[i]? = some x → E.R B v x → W i σ' H' → Ex H' H2 → tu { D with nx := W (i + 1), ct := W (i + 1), bk := tz D } ((σ'.set j (some (.int (i : Int)))).set l (some v)) H2)
    (hd : ∀ σ' H', W xs.length σ' H' → tz D σ' H') : tSeq (tFor (iEnum K (tCons tl tNil)) (gTup K 2 (gCons (gName j) (gCons (gName l) gNil))) tu) tz D σ H :=
  c_forEn (D := { D with nx := tz D }) x0 h W h0 hb hs hd

/-! ### dicts of one's own: keys that are ints -/
theorem q_dnew (s0 : Stp B0 H0 B H) (k : ∀ p H1, H p = none → Ex H H1 → Stp B0 H0 B H1 → Cell H0 B H1 p (.dK []) → tz D (σ.set i (some (.ref p))) H1) : tSeq (tAsg tDNewK (gName i)) tz D σ H :=
  fun p hp => k p _ hp (Ex.new hp) (s0.goH (Ex.new hp)) ⟨fresh_back s0.eh hp, fresh_back s0.bh hp, upd_same⟩
def addK (ks : List Int) (x : Int) : List Int := if x ∈ ks then ks else ks ++ [x]
theorem keys_put {x : Int} {v : V} {kvs : List (Key × V)} {ks : List Int} (h : kvs.map (·.1) = ks.map Sum.inl) : (putK kvs (Sum.inl x) v).map (·.1) = (addK ks x).map Sum.inl := by
  unfold putK addK
  rw [valV_any, val_keys h]
  by_cases hx : x ∈ ks
  · rw [if_pos (decide_eq_true hx), if_pos hx, List.map_map, ← h]
    refine List.map_congr_left fun p _ => ?_
    show (if p.1 = Sum.inl x then (p.1, v) else p).1 = p.1
    split <;> rfl
  · rw [if_neg (by rw [decide_eq_false hx]; decide), if_neg hx, List.map_append, List.map_append, h]
    rfl
theorem c_dput {m : Addr} {kvs : List (Key × V)} {ks : List Int} {x : Int} {v : V} (c : Cell H0 B H m (.dK kvs)) (hk : kvs.map (·.1) = ks.map Sum.inl) (s0 : Stp B0 H0 B H) (hz : kvs.length < 100000)
    (hv : Ev te σ H v) (ho : σ[i]? = some (some (.ref m))) (hx : EvE eI ta σ B H x)
    (k : ∀ H1 kvs', Stp B0 H0 B H1 → Cell H0 B H1 m (.dK kvs') → kvs'.map (·.1) = (addK ks x).map Sum.inl → (∀ p o, p ≠ m → Cell H0 B H p o → Cell H0 B H1 p o) → D.nx σ H1) :
    sDPut (tVar i) ta te D σ H :=
  hv H (Ex.refl _) _ fun H1 e1 => ⟨.ref m, ho, ev_sI hx H1 e1 _ fun H2 e2 => ⟨m, _, rfl, DPut.k (k := Sum.inl x) (e2 _ _ (e1 _ _ c.h)) (sz_lt hz), by
    have e := e1.trans e2
    exact k _ _ ((c.go e).mut (s0.goH e)) (c.go e).same (keys_put hk) (fun p o ne d => (d.go e).other ne)⟩⟩
theorem q_dput {m : Addr} {kvs : List (Key × V)} {ks : List Int} {x : Int} {v : V} (c : Cell H0 B H m (.dK kvs)) (hk : kvs.map (·.1) = ks.map Sum.inl) (s0 : Stp B0 H0 B H) (hz : kvs.length < 100000)
    (hv : Ev te σ H v) (ho : σ[i]? = some (some (.ref m))) (hx : EvE eI ta σ B H x)
    (k : ∀ H1 kvs', Stp B0 H0 B H1 → Cell H0 B H1 m (.dK kvs') → kvs'.map (·.1) = (addK ks x).map Sum.inl → (∀ p o, p ≠ m → Cell H0 B H p o → Cell H0 B H1 p o) → tz D σ H1) :
    tSeq (sDPut (tVar i) ta te) tz D σ H := c_dput (D := { D with nx := tz D }) c hk s0 hz hv ho hx k
/-- {k: v} -/
theorem q_disp1 {x : Int} {v : V} (s0 : Stp B0 H0 B H) (hx : EvE eI ta σ B H x) (hv : Ev te σ H v) (k : ∀ p H1, H p = none → Ex H H1 → Stp B0 H0 B H1 → Cell H0 B H1 p (.dK [(Sum.inl x, v)]) → tz D (σ.set i (some (.ref p))) H1) :
    tSeq (tAsg (tDisp [(ta, te)]) (gName i)) tz D σ H := fun p hp => ev_sI hx _ (Ex.new hp) _ fun H1 e1 => hv H1 ((Ex.new hp).trans e1) _ fun H2 e2 =>
  ⟨e2 _ _ (e1 _ _ upd_same), [(Sum.inl x, v)], rfl, Nat.succ_le_succ (Nat.zero_le _), by
    have c : Cell H0 B H2 p (.dK []) := ⟨fresh_back s0.eh hp, fresh_back s0.bh hp, e2 _ _ (e1 _ _ upd_same)⟩
    have e : Ex H H2 := ((Ex.new hp).trans e1).trans e2
    exact k p _ hp (Ex.mut e hp) (c.mut (s0.goH e)) c.same⟩

/-! ### lists of one's own -/
/-- x = xs.pop() -/
theorem q_pop {l : Addr} {xs : List V} {y : V} {j : Nat} (c : Cell H0 B H l (.lst (xs ++ [y]))) (s0 : Stp B0 H0 B H) (ho : σ[i]? = some (some (.ref l)))
    (k : ∀ H1, Stp B0 H0 B H1 → Cell H0 B H1 l (.lst xs) → (∀ p o, p ≠ l → Cell H0 B H p o → Cell H0 B H1 p o) → tz D (σ.set j (some y)) H1) :
    tSeq (tAsg (tBM0 K "list" rPop (tVar i)) (gName j)) tz D σ H :=
  ⟨.ref l, ho, Or.inl ⟨rfl, _, SqL.of c.h⟩, l, xs ++ [y], y, rfl, rfl, c.h, by simp, by
    have e : (xs ++ [y]).dropLast = xs := by simp
    rw [e]
    exact k _ (c.mut s0) c.same (fun p o ne d => d.other ne)⟩
/-- xs[j] = e -/
theorem c_setL {l : Addr} {xs : List V} {j : Nat} {v : V} (c : Cell H0 B H l (.lst xs)) (s0 : Stp B0 H0 B H) (hv : Ev te σ H v) (ho : σ[i]? = some (some (.ref l))) (hj : EvE eI tb σ B H (j : Int)) (hz : j < xs.length)
    (k : ∀ H1, Stp B0 H0 B H1 → Cell H0 B H1 l (.lst (xs.set j v)) → (∀ p o, p ≠ l → Cell H0 B H p o → Cell H0 B H1 p o) → D.nx σ H1) : tAsg te (gSub (tVar i) tb rSetL) D σ H :=
  s_setL c.h hv (ev_var ho) (ev_sI hj) hz fun H1 e => k _ ((c.go e).mut (s0.goH e)) (c.go e).same (fun p o ne d => (d.go e).other ne)
theorem q_setL' {l : Addr} {xs : List V} {j : Nat} {v : V} (c : Cell H0 B H l (.lst xs)) (s0 : Stp B0 H0 B H) (hv : Ev te σ H v) (ho : σ[i]? = some (some (.ref l))) (hj : EvE eI tb σ B H (j : Int)) (hz : j < xs.length)
    (k : ∀ H1, Stp B0 H0 B H1 → Cell H0 B H1 l (.lst (xs.set j v)) → (∀ p o, p ≠ l → Cell H0 B H p o → Cell H0 B H1 p o) → tz D σ H1) : tSeq (tAsg te (gSub (tVar i) tb rSetL)) tz D σ H :=
  c_setL (D := { D with nx := tz D }) c s0 hv ho hj hz k
theorem c_rev {l : Addr} {xs : List V} (c : Cell H0 B H l (.lst xs)) (s0 : Stp B0 H0 B H) (ho : σ[i]? = some (some (.ref l)))
    (k : ∀ H1, Stp B0 H0 B H1 → Cell H0 B H1 l (.lst xs.reverse) → (∀ p o, p ≠ l → Cell H0 B H p o → Cell H0 B H1 p o) → D.nx σ H1) : tDrop (tBM0 K "list" rReverse (tVar i)) D σ H :=
  ⟨.ref l, ho, Or.inl ⟨rfl, _, SqL.of c.h⟩, l, xs, rfl, rfl, c.h, k _ (c.mut s0) c.same (fun p o ne d => d.other ne)⟩
theorem c_clear {l : Addr} {xs : List V} (c : Cell H0 B H l (.lst xs)) (s0 : Stp B0 H0 B H) (ho : σ[i]? = some (some (.ref l)))
    (k : ∀ H1, Stp B0 H0 B H1 → Cell H0 B H1 l (.lst []) → (∀ p o, p ≠ l → Cell H0 B H p o → Cell H0 B H1 p o) → D.nx σ H1) : tDrop (tBM0 K "list" rClear (tVar i)) D σ H :=
  ⟨.ref l, ho, Or.inl ⟨rfl, _, SqL.of c.h⟩, l, xs, rfl, rfl, c.h, k _ (c.mut s0) c.same (fun p o ne d => d.other ne)⟩
/-- a list of one's own, read -/
theorem cell_L {l : Addr} {vs : List V} {xs : List α} (c : Cell H0 B H l (.lst vs)) (hp : Paired (E.R H) vs xs) : (eL E).R H (.ref l) xs := ⟨l, vs, rfl, c.h, hp⟩
theorem cell_D {m : Addr} {kvs : List (Key × V)} {ks : List Int} (c : Cell H0 B H m (.dK kvs)) (hk : kvs.map (·.1) = ks.map Sum.inl) : eD.R H (.ref m) ks := ⟨m, kvs, rfl, c.h, hk⟩
/-- a new list of one's own becomes known -/
theorem cell_out {l : Addr} {vs : List V} {xs : List α} (c : Cell H0 B H l (.lst vs)) (s0 : Stp B0 H0 B H) (hp : Paired (E.R B) vs xs) : Stp B0 H0 (upd B l (.lst vs)) H ∧ (eL E).R (upd B l (.lst vs)) (.ref l) xs :=
  ⟨⟨s0.eb.trans (Ex.new c.b), s0.eh, fun a u q => by
    by_cases z : a = l
    · subst z
      rw [upd_same] at q
      cases q
      exact c.h
    · rw [upd_ne z] at q
      exact s0.bh a u q, fun a u q => by
    by_cases z : a = l
    · subst z
      exact .inr c.n
    · rw [upd_ne z] at q
      exact s0.nw a u q⟩, l, vs, rfl, upd_same, E.ups (Ex.new c.b) hp⟩
theorem cell_outD {m : Addr} {kvs : List (Key × V)} {ks : List Int} (c : Cell H0 B H m (.dK kvs)) (s0 : Stp B0 H0 B H) (hk : kvs.map (·.1) = ks.map Sum.inl) : Stp B0 H0 (upd B m (.dK kvs)) H ∧ eD.R (upd B m (.dK kvs)) (.ref m) ks :=
  ⟨⟨s0.eb.trans (Ex.new c.b), s0.eh, fun a u q => by
    by_cases z : a = m
    · subst z
      rw [upd_same] at q
      cases q
      exact c.h
    · rw [upd_ne z] at q
      exact s0.bh a u q, fun a u q => by
    by_cases z : a = m
    · subst z
      exact .inr c.n
    · rw [upd_ne z] at q
      exact s0.nw a u q⟩, m, kvs, rfl, upd_same, hk⟩
end
end RR
namespace RR
open PySem L2 Evl PyProof.Rows

/-! ### defs -/
def FunAt (K : PySem.W.Frag) (mg : Str → Option Value) (x : Str) (st : Stmt) : Prop := ∃ f fd, Fun K x x st f fd ∧ mg x = some (.ref f)
def DefOk (P : Program) (w : World) (K : PySem.W.Frag) (mg : Str → Option Value) (base : Heap) (k : Nat) (x : Str) (ps : List Str) (sp : Sp) : Prop :=
  ∃ f fd, FnOk P w K mg base CX0 k f fd ps sp ∧ mg x = some (.ref f) ∧ PySem.W.keepIn K (.ref f) = true ∧ Binds K fd ps []
def LenA (n : Nat) (A : Hp → List V → Prop) : Prop := ∀ B vs, A B vs → vs.length = n
theorem lenN : LenA 0 aN := fun _ _ h => by rw [show _ = [] from h]; rfl
theorem lenC {α : Type} {E : Enc α} {S : α → Prop} {A : Hp → List V → Prop} {n : Nat} (h : LenA n A) : LenA (n + 1) (aC E S A) := fun B vs ⟨v, x, r, e, _, _, ha⟩ => by
  rw [e, List.length_cons, h B r ha]
section
variable {P : Program} {w : World} {K : PySem.W.Frag} {mg : Str → Option Value} {base : Heap}
theorem mk_fn {ι β : Type} {A : ι → Hp → List V → Prop} {Pre : ι → Prop} {F : Enc β} {Post : ι → β → Prop} {x : Str} {st : Stmt} {N ps : List Str} {k : Nat} {f : Addr} {fd : FuncData} (F1 : Fun K x x st f fd) (S : FnScope N ps (defScope st))
    (hl : ∀ i, LenA ps.length (A i))
    (hbody : ∀ (cdv : Value) (A0 : Around) (outer : List Env) (s : Shared) (E : XK) (i : ι) (B H : Hp) (vs : List V) (Q : VK), Room k (A0.deeper (envOfC x (defScope st) s.heap.objs.size f cdv)) → Ex B H → A i B vs → Pre i →
      (∀ w y B2 H2, Stp B H B2 H2 → Post i y → F.R B2 w y → Q w H2) →
      ∃ t, PSs (cxOf CX0 P w K mg base N x (defScope st) f cdv A0 outer s H E).nox (defBody st) t ∧ t { nx := fun _ H' => Q .non H', rt := Q } (start N vs) H) : FnOk P w K mg base CX0 (k + 1) f fd ps (Spec A Pre F Post) := by
  refine F1.ok S (fun vs H Q E h => ?_) (fun cdv A0 outer s H vs Q E hr h => ?_)
  · obtain ⟨i, B, _, hA, _⟩ := h
    exact hl i B vs hA
  · obtain ⟨i, B, x0, hA, hp, q⟩ := h
    exact hbody cdv A0 outer s E i B H vs Q hr x0 hA hp q
theorem mk_def {ι β : Type} {A : ι → Hp → List V → Prop} {Pre : ι → Prop} {F : Enc β} {Post : ι → β → Prop} {x : Str} {st : Stmt} {N ps : List Str} {k : Nat} (F0 : FunAt K mg x st) (S : FnScope N ps (defScope st))
    (bi : ∀ (kV doc pm : Value) (an : Option Addr) (cdv ct : Value) (us : List Value), us.length = ps.length → bindArgs (PySem.W.fnOf x x (defArgs st) (defBody st) (defScope st) .none kV doc pm an cdv ct) ⟨us, []⟩ = pure (ps.zip us))
    (hl : ∀ i, LenA ps.length (A i))
    (hbody : ∀ (f : Addr) (cdv : Value) (A0 : Around) (outer : List Env) (s : Shared) (E : XK) (i : ι) (B H : Hp) (vs : List V) (Q : VK), Room k (A0.deeper (envOfC x (defScope st) s.heap.objs.size f cdv)) → Ex B H → A i B vs → Pre i →
      (∀ w y B2 H2, Stp B H B2 H2 → Post i y → F.R B2 w y → Q w H2) →
      ∃ t, PSs (cxOf CX0 P w K mg base N x (defScope st) f cdv A0 outer s H E).nox (defBody st) t ∧ t { nx := fun _ H' => Q .non H', rt := Q } (start N vs) H) : DefOk P w K mg base (k + 1) x ps (Spec A Pre F Post) := by
  obtain ⟨f, fd, F1, hm⟩ := F0
  refine ⟨f, fd, ?_, hm, F1.kp, F1.binds (ps := ps) bi⟩
  refine F1.ok S (fun vs H Q E h => ?_) (fun cdv A0 outer s H vs Q E hr h => ?_)
  · obtain ⟨i, B, _, hA, _⟩ := h
    exact hl i B vs hA
  · obtain ⟨i, B, x0, hA, hp, q⟩ := h
    exact hbody f cdv A0 outer s E i B H vs Q hr x0 hA hp q
theorem mk_defM {ι β : Type} {A : ι → Hp → List V → Prop} {Pre : ι → Prop} {F : Enc β} {Post : ι → List β → Prop} {x : Str} {st : Stmt} {N ps : List Str} {k : Nat} (F0 : FunAt K mg x st) (S : FnScope N ps (defScope st))
    (bi : ∀ (kV doc pm : Value) (an : Option Addr) (cdv ct : Value) (us : List Value), us.length = ps.length → bindArgs (PySem.W.fnOf x x (defArgs st) (defBody st) (defScope st) .none kV doc pm an cdv ct) ⟨us, []⟩ = pure (ps.zip us))
    (hl : ∀ i, LenA ps.length (A i))
    (hbody : ∀ (f : Addr) (cdv : Value) (A0 : Around) (outer : List Env) (s : Shared) (E : XK) (i : ι) (B H : Hp) (vs : List V) (Q : VK), Room k (A0.deeper (envOfC x (defScope st) s.heap.objs.size f cdv)) → Ex B H → A i B vs → Pre i →
      (∀ p ws ys B2 H2, Stp B H B2 H2 → H p = none → B2 p = none → H2 p = some (.lst ws) → Post i ys → Paired (F.R B2) ws ys → Q (.ref p) H2) →
      ∃ t, PSs (cxOf CX0 P w K mg base N x (defScope st) f cdv A0 outer s H E).nox (defBody st) t ∧ t { nx := fun _ H' => Q .non H', rt := Q } (start N vs) H) : DefOk P w K mg base (k + 1) x ps (SpecM A Pre F Post) := by
  obtain ⟨f, fd, F1, hm⟩ := F0
  refine ⟨f, fd, ?_, hm, F1.kp, F1.binds (ps := ps) bi⟩
  refine F1.ok S (fun vs H Q E h => ?_) (fun cdv A0 outer s H vs Q E hr h => ?_)
  · obtain ⟨i, B, _, hA, _⟩ := h
    exact hl i B vs hA
  · obtain ⟨i, B, x0, hA, hp, q⟩ := h
    exact hbody f cdv A0 outer s E i B H vs Q hr x0 hA hp q
end
section
variable {X : Cx} {k : Nat} {x : Str} {ps : List Str} {sp : Sp} {p pos : Pos} {e : Expr} {es : List Expr} {t : TA}
theorem pe_callD (D : DefOk X.prog X.w X.K X.mg X.base k x ps sp) (hr : Room k X.A) (hg : Gl X x) (ha : PA X (e :: es) t) (hdb : (x == ("__debug__" : Str)) = false := by decide)
    (he : starEach (e :: es) X.env = (false, eval e X.env) :: starEach es X.env := by rfl) (hpl : (backTo pos (starEach es X.env)).any (·.1) = false := by rfl) :
    PE X (.Call (.Name x p) (e :: es) [] pos) (tCall sp [] E0 t) := by
  obtain ⟨f, fd, G, hm, hk, hb⟩ := D
  exact pe_call G hr hg hm hk hb .nil pass0 ha hdb he hpl
end

/-! ### great ints -/
def CMulX (i j : Int) : Prop := i.natAbs.log2 + j.natAbs.log2 < 100000000
theorem CMulX.ok {i j : Int} (h : CMulX i j) : IntMulOk i j := by
  have b : ∀ x : Int, Builtin.Int.intBits x ≤ x.natAbs.log2 + 1 := fun x => by
    unfold Builtin.Int.intBits
    split <;> omega
  have h1 := b i
  have h2 := b j
  have h3 : i.natAbs.log2 + j.natAbs.log2 < 100000000 := h
  have e : bitsLine = 134217728 := by decide
  unfold IntMulOk
  intro z
  rw [Bool.and_eq_true] at z
  have z2 := z.2
  unfold Builtin.Int.intTooBig at z2
  have z3 := of_decide_eq_true z2
  rw [e] at z3
  omega
theorem op_mulX {X : Cx} : OpR X (binaryOp .Mult) (rI CMulX fun i j => .int (i * j)) := opI fun _ _ _ _ _ _ _ hc q => mul_int q hc.ok
/-- an int that is not too great -/
def Bd (n : Int) : Prop := n.natAbs.log2 ≤ 2000000
theorem log2_mono {a b : Nat} (h : a ≤ b) : a.log2 ≤ b.log2 := by
  by_cases h0 : a = 0
  · subst h0
    exact Nat.zero_le _
  · have hb : b ≠ 0 := by omega
    rw [Nat.le_log2 hb]
    exact Nat.le_trans (Nat.log2_self_le h0) h
theorem Bd.le {m n : Int} (h : Bd n) (e : m.natAbs ≤ n.natAbs) : Bd m := Nat.le_trans (log2_mono e) h
theorem Bd.div {n : Int} (h : Bd n) {j : Int} (hj : 0 < j) : Bd (n / j) := h.le (by
  have h1 := Int.emod_add_mul_ediv n j
  have h2 := Int.emod_nonneg n (show j ≠ 0 by omega)
  have h3 := Int.emod_lt_of_pos n hj
  by_cases hn : 0 ≤ n
  · have h4 : 0 ≤ n / j := Int.ediv_nonneg hn (by omega)
    have h5 : n / j ≤ n := Int.ediv_le_self j hn
    omega
  · have h4 : n / j < 0 := Int.ediv_neg_of_neg_of_pos (by omega) hj
    have h5 : n ≤ n / j := by
      have q : (n / j + 1) * j ≤ (n / j + 1) * 1 := Int.mul_le_mul_of_nonpos_left (by omega) (by omega)
      have q2 : (n / j + 1) * j = j * (n / j) + j := by rw [Int.add_mul, Int.one_mul, Int.mul_comm]
      omega
    omega)
theorem Bd.small {n : Int} (h : n.natAbs < 2 ^ 64) : Bd n := by
  unfold Bd
  by_cases h0 : n.natAbs = 0
  · rw [h0]
    decide
  · have := (Nat.log2_lt h0).mpr h
    omega
theorem Bd.bits {n : Int} (h : Builtin.Int.intBits n ≤ 1048576) : Bd n := by
  unfold Bd
  unfold Builtin.Int.intBits at h
  split at h
  · rename_i z
    have e : n.natAbs = 0 := by
      first
        | exact z
        | (simp at z; omega)
    rw [e]
    decide
  · omega
theorem Bd.mul {n j : Int} (h : Bd n) (hj : j.natAbs.log2 < 1000) : CMulX n j := by
  unfold CMulX
  unfold Bd at h
  omega

/-! ### the script: a list that H may only read -/
def eScr (K : PySem.W.Frag) : Enc (List Int) := ⟨fun H v ns => ∃ a, v = .ref a ∧ SqL K H a (ns.map V.int), fun e ⟨a, h1, h2⟩ => ⟨a, h1, ex_l e h2⟩⟩
section
variable {te ta tb tl : TE} {to1 to2 : TO} {σ : L2.St} {B H : Hp} {K : PySem.W.Frag}
theorem es_lenS {ns : List Int} (x0 : Ex B H) (h : EvE (eScr K) ta σ B H ns) : EvE eI (tCB (rLenS K) (tCons ta tNil)) σ B H (ns.length : Int) :=
  es_cb1 x0 h fun v B2 H2 x2 ⟨a, h1, h2⟩ Q k => ⟨a, _, by rw [h1], .inl (ex_l x2 h2), by rw [List.length_map]; exact k _ _ B2 H2 (Stp.refl x2) rfl rfl⟩
theorem es_ixS {ns : List Int} {i n : Int} (x0 : Ex B H) (ha : EvE (eScr K) ta σ B H ns) (hb : EvE eI tb σ B H i) (h0 : 0 ≤ i) (hx : ns[i.toNat]? = some n) : EvE eI (tOp (rIxL K) ta tb) σ B H n :=
  es_op x0 ha hb fun v w B2 H2 x2 ⟨a, h1, h2⟩ hw => ⟨.int n, rfl, fun Q q => ⟨a, _, i, .int n, h1, hw, ex_l x2 h2, atI_of h0 (by rw [List.getElem?_map, hx]; rfl), q⟩⟩
theorem em_slS {ns : List Int} {lo hi : Option Int} (x0 : Ex B H) (h : EvE (eScr K) te σ B H ns) (h1 : EvO to1 σ H lo) (h2 : EvO to2 σ H hi) : EvM eI (tSl (rSlL K) te to1 to2) σ B H (fun ys => ys = cutP ns lo hi) := fun H1 e Q k =>
  h H1 e _ fun v x' B2 H2 t hx hR => by
    cases hx
    obtain ⟨a, rfl, q2⟩ := hR
    refine h1 H2 (e.trans t.eh) _ fun H3 e3 => h2 H3 ((e.trans t.eh).trans e3) _ fun H4 e4 => ⟨a, _, rfl, ex_l ((t.bh.trans e3).trans e4) q2, fun p hp => ?_⟩
    have s := t.goH (e3.trans e4)
    refine k p _ _ B2 _ (s.goH (Ex.new hp)) (fresh_back s.eh hp) (fresh_back s.bh hp) upd_same rfl (pcut lo hi (pI' (H := B2) ns))
/-- the cell of the script at k, or nought -/
def cellM (ns : List Int) (k : Int) : Int := if k < (ns.length : Int) then ns.getD k.toNat 0 else 0
theorem cellM_bd {ns : List Int} (h : ∀ n ∈ ns, Bd n) (k : Int) : Bd (cellM ns k) := by
  unfold cellM
  split
  · rw [List.getD_eq_getElem?_getD]
    cases e : ns[k.toNat]? with
    | none => exact Bd.small (by decide)
    | some n => exact h n (List.mem_of_getElem? e)
  · exact Bd.small (by decide)
end
theorem cutP_mem {α : Type} {xs : List α} {lo hi : Option Int} {x : α} (h : x ∈ cutP xs lo hi) : x ∈ xs := by
  unfold cutP at h
  exact List.mem_of_mem_drop (List.mem_of_mem_take h)
theorem cutP_len {α : Type} (xs : List α) (lo hi : Option Int) : (cutP xs lo hi).length ≤ xs.length := by
  unfold cutP
  rw [List.length_take, List.length_drop]
  omega
/-! ### the numbers of those that a test takes -/
def sel {α : Type} (p : α → Bool) (xs : List α) (i : Nat) : List Int := ((List.range i).filter fun k => (xs[k]?).any p).map fun (k : Nat) => (k : Int)
theorem sel_zero {α : Type} (p : α → Bool) (xs : List α) : sel p xs 0 = [] := rfl
theorem sel_succ {α : Type} {p : α → Bool} {xs : List α} {i : Nat} {x : α} (h : xs[i]? = some x) : sel p xs (i + 1) = sel p xs i ++ if p x then [(i : Int)] else [] := by
  unfold sel
  rw [List.range_succ, List.filter_append, List.map_append]
  congr 1
  rw [List.filter_cons, h]
  cases hp : p x <;> simp [hp]
theorem sel_yes {α : Type} {p : α → Bool} {xs : List α} {i : Nat} {x : α} (h : xs[i]? = some x) (hp : p x = true) : sel p xs (i + 1) = sel p xs i ++ [(i : Int)] := by
  rw [sel_succ h, hp, if_pos rfl]
theorem sel_no {α : Type} {p : α → Bool} {xs : List α} {i : Nat} {x : α} (h : xs[i]? = some x) (hp : p x = false) : sel p xs (i + 1) = sel p xs i := by
  rw [sel_succ h, hp, if_neg Bool.false_ne_true, List.append_nil]
theorem sel_len {α : Type} (p : α → Bool) (xs : List α) (i : Nat) : (sel p xs i).length ≤ i := by
  unfold sel
  rw [List.length_map]
  have h := List.length_filter_le (fun k => (xs[k]?).any p) (List.range i)
  rw [List.length_range] at h
  exact h
theorem mem_sel {α : Type} {p : α → Bool} {xs : List α} {i : Nat} {k : Int} : k ∈ sel p xs i ↔ 0 ≤ k ∧ k < (i : Int) ∧ ∃ x, xs[k.toNat]? = some x ∧ p x = true := by
  unfold sel
  rw [List.mem_map]
  constructor
  · rintro ⟨a, ha, rfl⟩
    rw [List.mem_filter, List.mem_range] at ha
    obtain ⟨h1, h2⟩ := ha
    refine ⟨by omega, by omega, ?_⟩
    rw [Int.toNat_natCast]
    cases e : xs[a]? with
    | none =>
      rw [e] at h2
      cases h2
    | some x =>
      rw [e] at h2
      exact ⟨x, rfl, h2⟩
  · rintro ⟨h0, h1, x, hx, hp⟩
    refine ⟨k.toNat, ?_, by omega⟩
    rw [List.mem_filter, List.mem_range, hx]
    exact ⟨by omega, hp⟩
theorem map_snoc (xs : List Int) (x : Int) : (xs ++ [x]).map V.int = xs.map V.int ++ [V.int x] := by rw [List.map_append]; rfl
end RR
namespace RR
open PySem L2 Evl PyProof.Rows

/-! ### what stands for plain data -/
structure De {α : Type} (E : Enc α) (n : Nat) where
  d : α → PyData
  ok : ∀ {K : PySem.W.Frag} {H : Hp} {v : V} {x : α}, E.R H v x → Dp K H v (d x)
  lay : ∀ x, (d x).canLay0 = true
  dep : ∀ x, (d x).depth ≤ n
section
variable {α β γ : Type} {E : Enc α} {F : Enc β} {G : Enc γ} {n m l : Nat}
def deI : De eI 0 := ⟨fun i => .int i, fun h => by cases h; exact .int _, fun _ => rfl, fun _ => Nat.le_refl _⟩
def deB : De eB 0 := ⟨fun i => .bool i, fun h => by cases h; exact .bl _, fun _ => rfl, fun _ => Nat.le_refl _⟩
def dO : Option Int → PyData
  | none => .none
  | some i => .int i
def deO : De eO 0 := ⟨dO, fun {K H v x} h => by
  cases x with
  | none => cases h; exact .non
  | some i => cases h; exact .int _, fun x => by cases x <;> rfl, fun x => by cases x <;> exact Nat.le_refl _⟩
theorem dp_all (D : De E n) {K : PySem.W.Frag} {H : Hp} : ∀ {vs : List V} {xs : List α}, Paired (E.R H) vs xs → DpAll K H vs (xs.map D.d)
  | _, _, .nil => .nil
  | _, _, .cons r t => .cons (D.ok r) (dp_all D t)
theorem lay_all (D : De E n) : ∀ xs : List α, PyData.canLayAll0 (xs.map D.d) = true
  | [] => rfl
  | x :: r => by
    rw [List.map_cons]
    show (PyData.canLay0 (D.d x) && PyData.canLayAll0 (r.map D.d)) = true
    rw [D.lay x, lay_all D r]
    rfl
theorem dep_all (D : De E n) : ∀ xs : List α, PyData.depthAll (xs.map D.d) ≤ n
  | [] => Nat.zero_le _
  | x :: r => by
    rw [List.map_cons]
    show max (PyData.depth (D.d x)) (PyData.depthAll (r.map D.d)) ≤ n
    have h1 := D.dep x
    have h2 := dep_all D r
    omega
def deL (D : De E n) : De (eL E) (n + 1) := ⟨fun xs => .list (xs.map D.d), fun ⟨a, vs, h1, h2, h3⟩ => by
  subst h1
  exact .lst (SqL.of h2) (dp_all D h3), fun xs => lay_all D xs, fun xs => Nat.succ_le_succ (dep_all D xs)⟩
def deT (D : De E n) : De (eT E) (n + 1) := ⟨fun xs => .tuple (xs.map D.d), fun ⟨a, vs, h1, h2, h3⟩ => by
  subst h1
  exact .tup (SqT.of h2) (dp_all D h3), fun xs => lay_all D xs, fun xs => Nat.succ_le_succ (dep_all D xs)⟩
def de2 (D : De E n) (D' : De F m) : De (e2 E F) (n + m + 1) := ⟨fun x => .tuple [D.d x.1, D'.d x.2], fun ⟨a, u, w, h1, h2, h3, h4⟩ => by
  subst h1
  exact .tup (SqT.of h2) (.cons (D.ok h3) (.cons (D'.ok h4) .nil)), fun x => by
    show (PyData.canLay0 (D.d x.1) && (PyData.canLay0 (D'.d x.2) && true)) = true
    rw [D.lay, D'.lay]
    rfl, fun x => by
    show max (PyData.depth (D.d x.1)) (max (PyData.depth (D'.d x.2)) 0) + 1 ≤ n + m + 1
    have h1 := D.dep x.1
    have h2 := D'.dep x.2
    omega⟩
def de3 (D : De E n) (D' : De F m) (D'' : De G l) : De (e3 E F G) (n + m + l + 1) := ⟨fun x => .tuple [D.d x.1, D'.d x.2.1, D''.d x.2.2], fun ⟨a, u, w, z, h1, h2, h3, h4, h5⟩ => by
  subst h1
  exact .tup (SqT.of h2) (.cons (D.ok h3) (.cons (D'.ok h4) (.cons (D''.ok h5) .nil))), fun x => by
    show (PyData.canLay0 (D.d x.1) && (PyData.canLay0 (D'.d x.2.1) && (PyData.canLay0 (D''.d x.2.2) && true))) = true
    rw [D.lay, D'.lay, D''.lay]
    rfl, fun x => by
    show max (PyData.depth (D.d x.1)) (max (PyData.depth (D'.d x.2.1)) (max (PyData.depth (D''.d x.2.2)) 0)) + 1 ≤ n + m + l + 1
    have h1 := D.dep x.1
    have h2 := D'.dep x.2.1
    have h3 := D''.dep x.2.2
    omega⟩
abbrev deR : De eR 1 := de3 deI deI deI
theorem De.sh (D : De E n) (h : n ≤ 64) (x : α) : SeqAt.shaped (D.d x) = true := by
  show ((D.d x).canLay0 && decide ((D.d x).depth ≤ 64)) = true
  rw [D.lay x, decide_eq_true (Nat.le_trans (D.dep x) h)]
  rfl
theorem De.refl (D : De E n) (x : α) : PyData.eqv (D.d x) (D.d x) = true := SeqAt.eqv_refl _ (D.lay x)
end

section
variable {α β γ δ ε : Type} {E : Enc α} {F : Enc β} {G : Enc γ} {n m : Nat}
variable {te ta tb tc tl : TE} {tt : TT} {σ : L2.St} {B H B0 H0 B1 H1 : Hp} {S : α → Prop} {K : PySem.W.Frag} {D : Ends} {tu tw tz : TS} {i : Nat}
theorem es_eqD {x : α} {y : β} (De1 : De E n) (De2 : De F m) (hn : n ≤ 64) (hm : m ≤ 64) (x0 : Ex B H) (ha : EvE E ta σ B H x) (hb : EvE F tb σ B H y) : EvE eB (tOp (rEqD K) ta tb) σ B H (PyData.eqv (De1.d x) (De2.d y)) :=
  es_op x0 ha hb fun v w B2 H2 x2 hv hw => ⟨_, rfl, fun Q q => ⟨_, _, De1.ok (E.up x2 hv), De2.ok (F.up x2 hw), De1.sh hn x, De2.sh hm y, q⟩⟩
theorem es_neD {x : α} {y : β} (De1 : De E n) (De2 : De F m) (hn : n ≤ 64) (hm : m ≤ 64) (x0 : Ex B H) (ha : EvE E ta σ B H x) (hb : EvE F tb σ B H y) : EvE eB (tOp (rNeD K) ta tb) σ B H (!PyData.eqv (De1.d x) (De2.d y)) :=
  es_op x0 ha hb fun v w B2 H2 x2 hv hw => ⟨_, rfl, fun Q q => ⟨_, _, De1.ok (E.up x2 hv), De2.ok (F.up x2 hw), De1.sh hn x, De2.sh hm y, q⟩⟩
theorem es_eqSame {x : α} (De1 : De E n) (hn : n ≤ 64) (x0 : Ex B H) (ha : EvE E ta σ B H x) (hb : EvE E tb σ B H x) : EvE eB (tOp (rEqD K) ta tb) σ B H true := (es_eqD De1 De1 hn hn x0 ha hb).to (De1.refl x)
theorem es_neSame {x : α} (De1 : De E n) (hn : n ≤ 64) (x0 : Ex B H) (ha : EvE E ta σ B H x) (hb : EvE E tb σ B H x) : EvE eB (tOp (rNeD K) ta tb) σ B H false := (es_neD De1 De1 hn hn x0 ha hb).to (by rw [De1.refl x]; rfl)

/-! ### isinstance -/
theorem es_isi {c a : String} {b : Bool} (x0 : Ex B H) (ha : EvS E ta σ B H S) (ty : ∀ x v B2 H2, Ex B2 H2 → S x → E.R B2 v x → TyX K H2 v (.type a)) (h : kitB a c = some b) : EvE eB (tCB (rIsi K) (tCons ta (tCons (tC (.ty c)) tNil))) σ B H b := fun H1 e Q k =>
  ha H1 e _ fun v x B2 H2 t hS hR => ⟨v, .ty c, _, _, b, rfl, .ty c, ty x v B2 H2 t.bh hS hR, kit_ty h, k _ _ B2 H2 t rfl rfl⟩
theorem es_isiI {c : String} {b : Bool} {S : Int → Prop} (x0 : Ex B H) (ha : EvS eI ta σ B H S) (h : kitB "int" c = some b) : EvE eB (tCB (rIsi K) (tCons ta (tCons (tC (.ty c)) tNil))) σ B H b :=
  es_isi x0 ha (fun x v B2 H2 _ _ hR => by cases hR; exact .base (.int _)) h
theorem es_isiB {c : String} {b : Bool} {S : Bool → Prop} (x0 : Ex B H) (ha : EvS eB ta σ B H S) (h : kitB "bool" c = some b) : EvE eB (tCB (rIsi K) (tCons ta (tCons (tC (.ty c)) tNil))) σ B H b :=
  es_isi x0 ha (fun x v B2 H2 _ _ hR => by cases hR; exact .base (.bl _)) h
theorem es_isiN {c : String} {b : Bool} (x0 : Ex B H) (ha : EvE eO ta σ B H none) (h : kitB "NoneType" c = some b) : EvE eB (tCB (rIsi K) (tCons ta (tCons (tC (.ty c)) tNil))) σ B H b :=
  es_isi x0 ha (fun x v B2 H2 _ hS hR => by cases hS; cases hR; exact .base .non) h
theorem es_isiL {c : String} {b : Bool} {S : List α → Prop} (x0 : Ex B H) (ha : EvS (eL E) ta σ B H S) (h : kitB "list" c = some b) : EvE eB (tCB (rIsi K) (tCons ta (tCons (tC (.ty c)) tNil))) σ B H b :=
  es_isi x0 ha (fun x v B2 H2 x2 _ ⟨a, vs, h1, h2, _⟩ => by subst h1; exact .base (.lst (x2 _ _ h2))) h
theorem es_isiT {c : String} {b : Bool} {S : List α → Prop} (x0 : Ex B H) (ha : EvS (eT E) ta σ B H S) (h : kitB "tuple" c = some b) : EvE eB (tCB (rIsi K) (tCons ta (tCons (tC (.ty c)) tNil))) σ B H b :=
  es_isi x0 ha (fun x v B2 H2 x2 _ ⟨a, vs, h1, h2, _⟩ => by subst h1; exact .base (.tup (x2 _ _ h2))) h
theorem es_isi2 {c : String} {b : Bool} {S : α × β → Prop} (x0 : Ex B H) (ha : EvS (e2 E F) ta σ B H S) (h : kitB "tuple" c = some b) : EvE eB (tCB (rIsi K) (tCons ta (tCons (tC (.ty c)) tNil))) σ B H b :=
  es_isi x0 ha (fun x v B2 H2 x2 _ ⟨a, u, w, h1, h2, _⟩ => by subst h1; exact .base (.tup (x2 _ _ h2))) h
theorem es_isi3 {c : String} {b : Bool} {S : α × β × γ → Prop} (x0 : Ex B H) (ha : EvS (e3 E F G) ta σ B H S) (h : kitB "tuple" c = some b) : EvE eB (tCB (rIsi K) (tCons ta (tCons (tC (.ty c)) tNil))) σ B H b :=
  es_isi x0 ha (fun x v B2 H2 x2 _ ⟨a, u, w, z, h1, h2, _⟩ => by subst h1; exact .base (.tup (x2 _ _ h2))) h
theorem k_ii : kitB "int" "int" = some true := by decide +kernel
theorem k_ib : kitB "int" "bool" = some false := by decide +kernel
theorem k_ll : kitB "list" "list" = some true := by decide +kernel
theorem k_tt : kitB "tuple" "tuple" = some true := by decide +kernel
theorem k_bb : kitB "bool" "bool" = some true := by decide +kernel
theorem k_bi : kitB "bool" "int" = some true := by decide +kernel
theorem k_ni : kitB "NoneType" "int" = some false := by decide +kernel
theorem k_nb : kitB "NoneType" "bool" = some false := by decide +kernel
theorem k_nl : kitB "NoneType" "list" = some false := by decide +kernel
/-- isinstance(x, int) and not isinstance(x, bool) of an int; the other way round -/
theorem et_whole {S : Int → Prop} (x0 : Ex B H) (ha : EvS eI ta σ B H S) (hb : EvS eI tb σ B H S) :
    EvT (tOr (tNot (tB (tCB (rIsi K) (tCons ta (tCons (tC (.ty "int")) tNil))))) (tB (tCB (rIsi K) (tCons tb (tCons (tC (.ty "bool")) tNil))))) σ H false :=
  et_or (et_not (et_sB (es_isiI x0 ha k_ii))) fun _ => et_sB (es_isiI x0 hb k_ib)

/-! ### ends, ifs -/
theorem c_ret {T : β → Prop} (s : Stp B0 H0 B H) (h : EvS F te σ B H T) (k : ∀ w y B2 H2, Stp B0 H0 B2 H2 → T y → F.R B2 w y → D.rt w H2) : tRet te D σ H := by
  exact h H (Ex.refl _) _ fun w y B2 H2 t hT hR => k w y B2 H2 (s.trans t) hT hR
theorem c_retM {T : List β → Prop} (s : Stp B0 H0 B H) (h : EvM F te σ B H T) (k : ∀ p ws ys B2 H2, Stp B0 H0 B2 H2 → H0 p = none → B2 p = none → H2 p = some (.lst ws) → T ys → Paired (F.R B2) ws ys → D.rt (.ref p) H2) : tRet te D σ H :=
  h H (Ex.refl _) _ fun p ws ys B2 H2 t hp bp hl hT hR => k p ws ys B2 H2 (s.trans t) (fresh_back s.eh hp) bp hl hT hR
theorem set_same {ξ : Type} {xs : List ξ} {i : Nat} {a : ξ} (h : xs[i]? = some a) : xs.set i a = xs := by
  obtain ⟨h1, h2⟩ := List.getElem?_eq_some_iff.mp h
  rw [← h2]
  exact List.set_getElem_self h1
/-- if c: x = e, an int -/
theorem q_ifSetI {b : Bool} {T : Int → Prop} (ht : EvT tt σ H b) (x0 : Ex B H) (h1 : b = true → EvS eI te σ B H T) (h2 : b = false → ∃ n, σ[i]? = some (some (.int n)) ∧ T n) (k : ∀ n B1 H1, Stp B H B1 H1 → T n → tz D (σ.set i (some (.int n))) H1) :
    tSeq (tIfS tt (tAsg te (gName i)) tNext) tz D σ H :=
  q_when ht (fun hb H1 e => (h1 hb).up (Stp.go x0 e) H1 (Ex.refl _) _ fun v n B1 H2 s hT hR => by
    cases hR
    exact k n B1 H2 ((Stp.go x0 e).trans s) hT) (fun hb H1 e => by
    obtain ⟨n, hn, hT⟩ := h2 hb
    have q := k n B H1 (Stp.go x0 e) hT
    rw [set_same hn] at q
    exact q)
/-- a list, a dict of one's own becomes known -/
theorem cell_pub {a : Addr} {vs : List V} {xs : List α} (c : Cell H0 B H a (.lst vs)) (s0 : Stp B0 H0 B H) (hp : Paired (E.R B) vs xs) :
    ∃ B1, Stp B0 H0 B1 H ∧ Ex B B1 ∧ (eL E).R B1 (.ref a) xs ∧ ∀ p o, p ≠ a → Cell H0 B H p o → Cell H0 B1 H p o := by
  obtain ⟨t, r⟩ := cell_out (E := E) c s0 hp
  exact ⟨_, t, Ex.new c.b, r, fun p o ne d => ⟨d.n, by rw [upd_ne ne]; exact d.b, d.h⟩⟩
theorem cell_pubD {a : Addr} {kvs : List (Key × V)} {ks : List Int} (c : Cell H0 B H a (.dK kvs)) (s0 : Stp B0 H0 B H) (hk : kvs.map (·.1) = ks.map Sum.inl) :
    ∃ B1, Stp B0 H0 B1 H ∧ Ex B B1 ∧ eD.R B1 (.ref a) ks ∧ ∀ p o, p ≠ a → Cell H0 B H p o → Cell H0 B1 H p o := by
  obtain ⟨t, r⟩ := cell_outD c s0 hk
  exact ⟨_, t, Ex.new c.b, r, fun p o ne d => ⟨d.n, by rw [upd_ne ne]; exact d.b, d.h⟩⟩
/-- an item of a list, any -/
theorem es_ixLM {xs : List α} {j : Int} (x0 : Ex B H) (ha : EvE (eL E) ta σ B H xs) (hb : EvE eI tb σ B H j) (h0 : 0 ≤ j) (h1 : j < (xs.length : Int)) : EvS E (tOp (rIxL K) ta tb) σ B H (fun x => x ∈ xs) := by
  have hj : j.toNat < xs.length := by omega
  refine (es_ixL (x := xs[j.toNat]) x0 ha hb h0 (List.getElem?_eq_getElem hj)).imp fun y hy => ?_
  subst hy
  exact List.getElem_mem hj
theorem pair_all {P : β → Prop} {R : α → β → Prop} (h : ∀ x y, R x y → P y) : ∀ {xs : List α} {ys : List β}, Paired R xs ys → ∀ y ∈ ys, P y
  | _, _, .nil, _, m => by cases m
  | _, _, .cons r t, y, m => by
    rcases List.mem_cons.mp m with e | m
    · subst e
      exact h _ _ r
    · exact pair_all h t y m
theorem pair_len {R : α → β → Prop} {xs : List α} {ys : List β} (h : Paired R xs ys) : ys.length = xs.length := (Paired.length h).symm
end
/-! ### s + d round m -/
theorem emod_add_lt {s d m : Int} (h0 : 0 ≤ s) (h1 : s < m) (h2 : 0 ≤ d) (h3 : d < m) : (s + d) % m = if s + d < m then s + d else s + d - m := by
  split
  · exact Int.emod_eq_of_lt (by omega) (by omega)
  · have e : (s + d) % m = (s + d - m) % m := by rw [Int.sub_emod_right]
    rw [e]
    exact Int.emod_eq_of_lt (by omega) (by omega)
/-- a road between two of so many places -/
def OkR (m : Int) (r : Road) : Prop := 0 ≤ r.1 ∧ r.1 < m ∧ 0 ≤ r.2.1 ∧ r.2.1 < m ∧ r.1 ≠ r.2.1 ∧ 0 ≤ r.2.2 ∧ r.2.2 < 10000000000000000000000000000000000000000
end RR
namespace RR
open PySem L2 Evl PyProof.Rows
section
variable {α β γ δ ε : Type} {E : Enc α} {F : Enc β} {G : Enc γ} {n m : Nat}
variable {te ta tb tc tl : TE} {tt : TT} {σ : L2.St} {B H B0 H0 B1 H1 : Hp} {S : α → Prop} {K : PySem.W.Frag} {D : Ends} {tu tw tz : TS} {i : Nat}
theorem es_andV {a b : Bool} (x0 : Ex B H) (ha : EvE eB ta σ B H a) (hb : a = true → EvE eB tb σ B H b) : EvE eB (tAndV ta tb) σ B H (a && b) := es_evB x0 (ev_andV (ev_sB ha) fun h => ev_sB (hb h))
theorem es_orV {a b : Bool} (x0 : Ex B H) (ha : EvE eB ta σ B H a) (hb : a = false → EvE eB tb σ B H b) : EvE eB (tOrV ta tb) σ B H (a || b) := es_evB x0 (ev_orV (ev_sB ha) fun h => ev_sB (hb h))
theorem es_notV {a : Bool} (x0 : Ex B H) (ha : EvE eB ta σ B H a) : EvE eB (tNotV ta) σ B H (!a) := es_evB x0 (ev_notV (ev_sB ha))
theorem es_len3 {t : α × β × γ} (x0 : Ex B H) (h : EvE (e3 E F G) ta σ B H t) : EvE eI (tCB (rLenS K) (tCons ta tNil)) σ B H 3 :=
  es_cb1 x0 h fun v B2 H2 x2 ⟨a, u, w, z, h1, h2, _⟩ Q k => ⟨a, _, by rw [h1], .inr (SqT.of (x2 _ _ h2)), k _ _ B2 H2 (Stp.refl x2) rfl rfl⟩
theorem es_len2 {t : α × β} (x0 : Ex B H) (h : EvE (e2 E F) ta σ B H t) : EvE eI (tCB (rLenS K) (tCons ta tNil)) σ B H 2 :=
  es_cb1 x0 h fun v B2 H2 x2 ⟨a, u, w, h1, h2, _⟩ Q k => ⟨a, _, by rw [h1], .inr (SqT.of (x2 _ _ h2)), k _ _ B2 H2 (Stp.refl x2) rfl rfl⟩
/-- xs.append(n), an int: nothing more is known -/
theorem c_appI {l : Addr} {xs : List V} {n : Int} (c : Cell H0 B H l (.lst xs)) (s0 : Stp B0 H0 B H) (ho : σ[i]? = some (some (.ref l))) (hz : xs.length < 100000) (h : EvE eI te σ B H n)
    (k : ∀ H1, Stp B0 H0 B H1 → Cell H0 B H1 l (.lst (xs ++ [.int n])) → (∀ p o, p ≠ l → Cell H0 B H p o → Cell H0 B H1 p o) → D.nx σ H1) :
    tDrop (tBM K "list" rAppend (tVar i) (tCons te tNil)) D σ H :=
  ⟨.ref l, ho, Or.inl ⟨rfl, xs, SqL.of c.h⟩, ev_sI h H (Ex.refl _) _ fun H1 e => ⟨l, xs, .int n, rfl, rfl, e _ _ c.h, sz_lt hz,
    k _ ((c.go e).mut (s0.goH e)) (c.go e).same (fun p o ne d => (d.go e).other ne)⟩⟩
/-- a list as a test -/
theorem et_truL {xs : List α} (h : ∃ v, Ev ta σ H v ∧ (eL E).R H v xs) : EvT (fun σ H Q => ta σ H fun x H' => ∃ k, TruV K x H' k ∧ Q k H') σ H (!xs.isEmpty) := fun H1 e Q q => by
  obtain ⟨v, hv, a, vs, h1, h2, h3⟩ := h
  subst h1
  refine hv H1 e _ fun H2 e2 => ⟨!xs.isEmpty, .inl ⟨vs, SqL.of (e2 _ _ (e _ _ h2)), ?_⟩, q H2 e2⟩
  have hl := pl h3
  cases xs <;> cases vs <;> first | rfl | cases hl
theorem e2_H {H : Hp} {v : V} {x : Int × Int} (h : (e2 eI eI).R H v x) : eH.R H v x := by
  obtain ⟨a, u, w, h1, h2, h3, h4⟩ := h
  cases h3
  cases h4
  exact ⟨a, [], h1, h2⟩
theorem e2s_H {H : Hp} {v : V} {xs : List (Int × Int)} (h : (eL (e2 eI eI)).R H v xs) : (eL eH).R H v xs := by
  obtain ⟨a, vs, h1, h2, h3⟩ := h
  exact ⟨a, vs, h1, h2, pmap (fun _ _ => e2_H) h3⟩
/-- sorted of a dict's keys -/
def rSortD : List V → Hp → VK → Prop := fun xs H Q => ∃ (a : Addr) (kvs : List (Key × V)) (ks : List Int), xs = [V.ref a] ∧ Rd H a (.dK kvs) ∧ kvs.map (·.1) = ks.map Sum.inl ∧ ks.length < 64 ∧
  ∀ (ys : List Int) (p : Addr), ys.Perm ks → ys.Pairwise (· ≤ ·) → H p = none → Q (.ref p) (upd H p (.lst (ys.map V.int)))
theorem cl_sortedD {X : Cx} (h : X.calm = true) : CallR X (.builtin "sorted") rSortD := call_sortedDI h
/-- rising, no two alike -/
def Up (ys : List Int) : Prop := ys.Pairwise (· < ·)
theorem up_of {ys ks : List Int} (hp : ys.Perm ks) (hs : ys.Pairwise (· ≤ ·)) (hn : ks.Nodup) : Up ys := by
  have hn2 : ys.Nodup := hp.nodup_iff.mpr hn
  clear hp
  induction ys with
  | nil => exact List.Pairwise.nil
  | cons a r ih =>
    obtain ⟨h1, h2⟩ := List.pairwise_cons.mp hs
    obtain ⟨h3, h4⟩ := List.nodup_cons.mp hn2
    refine List.pairwise_cons.mpr ⟨fun b hb => ?_, ih h2 h4⟩
    have h5 := h1 b hb
    have h6 : a ≠ b := fun q => h3 (q ▸ hb)
    omega
theorem up_ext : ∀ {xs ys : List Int}, Up xs → Up ys → (∀ v, v ∈ xs ↔ v ∈ ys) → xs = ys
  | [], [], _, _, _ => rfl
  | [], y :: ys, _, _, h => by
    have := (h y).mpr List.mem_cons_self
    cases this
  | x :: xs, [], _, _, h => by
    have := (h x).mp List.mem_cons_self
    cases this
  | x :: xs, y :: ys, hx, hy, h => by
    obtain ⟨h1, h2⟩ := List.pairwise_cons.mp hx
    obtain ⟨h3, h4⟩ := List.pairwise_cons.mp hy
    have e : x = y := by
      rcases List.mem_cons.mp ((h x).mp List.mem_cons_self) with q | q
      · exact q
      · rcases List.mem_cons.mp ((h y).mpr List.mem_cons_self) with z | z
        · exact z.symm
        · have a1 := h3 x q
          have a2 := h1 y z
          omega
    subst e
    rw [up_ext h2 h4 fun v => ?_]
    constructor
    · intro hv
      rcases List.mem_cons.mp ((h v).mp (List.mem_cons_of_mem _ hv)) with q | q
      · subst q
        have := h1 v hv
        omega
      · exact q
    · intro hv
      rcases List.mem_cons.mp ((h v).mpr (List.mem_cons_of_mem _ hv)) with q | q
      · subst q
        have := h3 v hv
        omega
      · exact q
theorem up_rg (n : Int) : Up (rg n) := by
  unfold rg Up
  rw [List.pairwise_map]
  exact List.pairwise_lt_range.imp fun h => by omega
theorem up_filter {ys : List Int} (p : Int → Bool) (h : Up ys) : Up (ys.filter p) := List.Pairwise.sublist List.filter_sublist h
theorem up_nodup {ys : List Int} (h : Up ys) : ys.Nodup := List.Pairwise.imp (fun h => by omega) h
theorem em_sortD {ks : List Int} (x0 : Ex B H) (h : EvE eD ta σ B H ks) (hz : ks.length < 64) (hn : ks.Nodup) : EvM eI (tCB rSortD (tCons ta tNil)) σ B H (fun ys => Up ys ∧ ∀ v, v ∈ ys ↔ v ∈ ks) :=
  em_cb1 x0 h fun v B2 H2 x2 ⟨a, kvs, h1, h2, h3⟩ Q k => ⟨a, kvs, ks, by rw [h1], .inl (x2 _ _ h2), h3, hz, fun ys p hp hs hq => k p _ ⟨ys, ⟨up_of hp hs hn, fun v => hp.mem_iff⟩, pI' ys⟩ hq⟩
theorem em_sortDS {T : List Int → Prop} (x0 : Ex B H) (h : EvS eD ta σ B H T) (hz : ∀ ks, T ks → ks.length < 64 ∧ ks.Nodup) : EvM eI (tCB rSortD (tCons ta tNil)) σ B H (fun ys => Up ys ∧ ∃ ks, T ks ∧ ∀ v, v ∈ ys ↔ v ∈ ks) := fun H1 e Q k =>
  h H1 e _ fun v ks B2 H2 t hT ⟨a, kvs, h1, h2, h3⟩ => ⟨a, kvs, ks, by rw [h1], .inl (t.bh _ _ h2), h3, (hz ks hT).1, fun ys p hp hs hq =>
    k p _ ys B2 _ (t.goH (Ex.new hq)) (fresh_back t.eh hq) (fresh_back t.bh hq) upd_same ⟨up_of hp hs (hz ks hT).2, ks, hT, fun v => hp.mem_iff⟩ (pI' ys)⟩
/-- tuple(..) of what is known in part -/
theorem es_tupLS {T : List α → Prop} (x0 : Ex B H) (h : EvS (eL E) ta σ B H T) : EvS (eT E) (tCB (rTupS' K) (tCons ta tNil)) σ B H T := fun H1 e Q k =>
  h H1 e _ fun v xs B2 H2 t hT ⟨a, vs, h1, h2, h3⟩ => ⟨a, vs, by rw [h1], .inl ⟨SqL.of (t.bh _ _ h2), fun l hl => k (.ref l) xs (upd B2 l (.tup vs)) _ (t.trans (Stp.new t.bh hl)) hT ⟨l, vs, rfl, upd_same, E.ups (Ex.new (fresh_back t.bh hl)) h3⟩⟩⟩
/-- a module's number -/
theorem pe_gI {X : Cx} {x : Str} {n : Int} {pos : Pos} (hg : Gl X x) (h : ∃ t, X.mg x = some (.int n t)) (hd : (x == ("__debug__" : Str)) = false := by decide) : PE X (.Name x pos) (tC (.int n)) := by
  obtain ⟨t, h⟩ := h
  exact pe_glob hg h ⟨t, rfl⟩ hd
end

/-! ### rules with K told apart (within a comprehension) -/
section
variable {X : Cx} {K : PySem.W.Frag}
theorem k_in (h : X.K = K) : OpR X (compareOp .In) (rIn K false) := h ▸ op_in_seq
theorem k_notin (h : X.K = K) : OpR X (compareOp .NotIn) (rIn K true) := h ▸ op_notIn_seq
theorem k_ixl (h : X.K = K) : IxR X (rIxL K) := h ▸ ix_list
theorem k_ixt (h : X.K = K) : IxR X (rIxT K) := h ▸ ix_tup
theorem k_sll (h : X.K = K) : SlR X (rSlL K) := h ▸ sl_list
theorem k_len (h : X.K = K) : CallR X (.builtin "len") (rLenS K) := h ▸ cl_len
theorem k_list (h : X.K = K) : CallR X (.type "list") (rListS' K) := h ▸ cl_list
theorem k_tuple (h : X.K = K) : CallR X (.type "tuple") (rTupS' K) := h ▸ cl_tuple
theorem k_sum (c : X.calm = true) (h : X.K = K) : CallR X (.builtin "sum") (rSum K) := h ▸ cr_sum c
theorem k_min (c : X.calm = true) (h : X.K = K) : CallR X (.builtin "min") (rMin K) := h ▸ cr_min c
theorem k_max (c : X.calm = true) (h : X.K = K) : CallR X (.builtin "max") (rMax K) := h ▸ cr_max c
theorem k_isi (h : X.K = K) : CallR X (.builtin "isinstance") (rIsi K) := h ▸ call_isi
theorem k_eqD (hu : X.A.units + 64 < cLine) (h : X.K = K) : OpR X (compareOp .Eq) (rEqD K) := h ▸ op_eqD hu
theorem k_neD (hu : X.A.units + 64 < cLine) (h : X.K = K) : OpR X (compareOp .NotEq) (rNeD K) := h ▸ op_neD hu
end

/-! ### what can be come to -/
inductive Rch (es : List (Int × Int)) (s : Int) : Int → Prop
  | refl : Rch es s s
  | step {v w : Int} : Rch es s v → (v, w) ∈ es → Rch es s w
theorem Rch.trans {es : List (Int × Int)} {a b c : Int} (h : Rch es a b) (k : Rch es b c) : Rch es a c := by
  induction k with
  | refl => exact h
  | step _ e ih => exact .step ih e
theorem Rch.head {es : List (Int × Int)} {a b c : Int} (h : (a, b) ∈ es) (k : Rch es b c) : Rch es a c := Rch.trans (.step .refl h) k
theorem Rch.closed {es : List (Int × Int)} {s v : Int} {P : Int → Prop} (h : Rch es s v) (h0 : P s) (hc : ∀ a b, (a, b) ∈ es → P a → P b) : P v := by
  induction h with
  | refl => exact h0
  | step _ e ih => exact hc _ _ e ih
theorem Rch.mono {es fs : List (Int × Int)} {s v : Int} (h : Rch es s v) (k : ∀ e ∈ es, e ∈ fs) : Rch fs s v := by
  induction h with
  | refl => exact .refl
  | step _ e ih => exact .step ih (k _ e)
/-- the roads turned round -/
def turned (es : List (Int × Int)) : List (Int × Int) := es.map fun e => (e.2, e.1)
theorem mem_turned {es : List (Int × Int)} {a b : Int} : (a, b) ∈ turned es ↔ (b, a) ∈ es := by
  unfold turned
  rw [List.mem_map]
  constructor
  · rintro ⟨⟨x, y⟩, h, e⟩
    cases e
    exact h
  · intro h
    exact ⟨(b, a), h, rfl⟩
theorem rch_turned {es : List (Int × Int)} {a b : Int} : Rch (turned es) a b ↔ Rch es b a := by
  constructor
  · intro h
    induction h with
    | refl => exact .refl
    | step _ e ih => exact Rch.head (mem_turned.mp e) ih
  · intro h
    induction h with
    | refl => exact .refl
    | step _ e ih => exact Rch.head (mem_turned.mpr e) ih
def ends (rs : List Road) : List (Int × Int) := rs.map fun r => (r.1, r.2.1)
theorem mem_ends {rs : List Road} {a b : Int} : (a, b) ∈ ends rs ↔ ∃ r ∈ rs, r.1 = a ∧ r.2.1 = b := by
  unfold ends
  rw [List.mem_map]
  constructor
  · rintro ⟨r, h, e⟩
    cases e
    exact ⟨r, h, rfl, rfl⟩
  · rintro ⟨r, h, rfl, rfl⟩
    exact ⟨r, h, rfl⟩
/-- within nought and m -/
def InE (m : Int) (es : List (Int × Int)) : Prop := ∀ e ∈ es, 0 ≤ e.1 ∧ e.1 < m ∧ 0 ≤ e.2 ∧ e.2 < m
theorem Rch.inE {es : List (Int × Int)} {m s v : Int} (h : Rch es s v) (hs : 0 ≤ s ∧ s < m) (he : InE m es) : 0 ≤ v ∧ v < m :=
  h.closed (P := fun v => 0 ≤ v ∧ v < m) hs fun a b q _ => ⟨(he _ q).2.2.1, (he _ q).2.2.2⟩
/-- different numbers below n are at most n -/
theorem nodup_le : ∀ {n : Nat} {ks : List Int}, ks.Nodup → (∀ k ∈ ks, 0 ≤ k ∧ k < (n : Int)) → ks.length ≤ n
  | 0, [], _, _ => Nat.le_refl _
  | 0, k :: _, _, h => by
    have := h k List.mem_cons_self
    omega
  | n + 1, ks, hn, h => by
    have ih := nodup_le (n := n) (hn.erase (n : Int)) fun k hk => by
      have h1 := (hn.mem_erase_iff).mp hk
      have h2 := h k h1.2
      have h3 := h1.1
      omega
    rw [List.length_erase] at ih
    split at ih <;> omega
structure Net (m : Int) (rs : List Road) : Prop where
  lo : 1 ≤ m
  hi : m ≤ 12
  len : rs.length ≤ 60
  ok : ∀ r ∈ rs, OkR m r
theorem Net.inE {m : Int} {rs : List Road} (h : ∀ r ∈ rs, OkR m r) : InE m (ends rs) := by
  rintro ⟨a, b⟩ he
  obtain ⟨r, hr, rfl, rfl⟩ := mem_ends.mp he
  obtain ⟨h1, h2, h3, h4, _⟩ := h r hr
  exact ⟨h1, h2, h3, h4⟩
theorem InE.turned {m : Int} {es : List (Int × Int)} (h : InE m es) : InE m (turned es) := by
  rintro ⟨a, b⟩ he
  obtain ⟨h1, h2, h3, h4⟩ := h _ (mem_turned.mp he)
  exact ⟨h3, h4, h1, h2⟩
end RR
namespace RR
open PySem L2 Evl PyProof.Rows
/-! ### marks: going along the roads again and again -/
def Mk (bs : List Bool) (v : Int) : Prop := bs[v.toNat]? = some true
def Shut (rs : List Road) (bs : List Bool) : Prop := ∀ r ∈ rs, Mk bs r.1 → Mk bs r.2.1
structure Sound (m : Int) (rs : List Road) (root : Int) (bs : List Bool) : Prop where
  len : bs.length = m.toNat
  snd : ∀ v, 0 ≤ v → Mk bs v → Rch (ends rs) root v
  rt : Mk bs root
def cnt (bs : List Bool) : Nat := bs.count true
theorem cnt_le (bs : List Bool) : cnt bs ≤ bs.length := List.count_le_length
theorem cnt_set : ∀ {bs : List Bool} {i : Nat}, bs[i]? = some false → cnt (bs.set i true) = cnt bs + 1
  | [], i, h => by simp at h
  | b :: r, 0, h => by
    simp at h
    subst h
    simp [cnt]
  | b :: r, i + 1, h => by
    have ih := cnt_set (bs := r) (i := i) (by simpa using h)
    unfold cnt at ih ⊢
    rw [List.set_cons_succ, List.count_cons, List.count_cons, ih]
    omega
theorem mk_set {bs : List Bool} {i : Nat} {v : Int} (hi : i < bs.length) : Mk (bs.set i true) v ↔ (v.toNat = i ∨ Mk bs v) := by
  unfold Mk
  rw [List.getElem?_set]
  by_cases h : i = v.toNat
  · subst h
    rw [if_pos rfl, if_pos hi]
    simp
  · rw [if_neg h]
    have h' : ¬ v.toNat = i := fun q => h q.symm
    simp [h']
theorem Sound.set {m : Int} {rs : List Road} {root : Int} {bs : List Bool} {r : Road} (h : Sound m rs root bs) (hr : r ∈ rs) (ho : OkR m r) (h1 : Mk bs r.1) : Sound m rs root (bs.set r.2.1.toNat true) := by
  obtain ⟨k1, k2, k3, k4, _⟩ := ho
  have hi : r.2.1.toNat < bs.length := by rw [h.len]; omega
  refine ⟨by rw [List.length_set]; exact h.len, fun v hv hm => ?_, (mk_set hi).mpr (.inr h.rt)⟩
  rcases (mk_set hi).mp hm with e | hm
  · have e2 : v = r.2.1 := by omega
    rw [e2]
    exact .step (h.snd r.1 k1 h1) (mem_ends.mpr ⟨r, hr, rfl, rfl⟩)
  · exact h.snd v hv hm
theorem Sound.all {m : Int} {rs : List Road} {root : Int} {bs : List Bool} (h : Sound m rs root bs) (hs : Shut rs bs) {v : Int} (hv : 0 ≤ v) : Mk bs v ↔ Rch (ends rs) root v := by
  refine ⟨h.snd v hv, fun r => r.closed (P := fun v => Mk bs v) h.rt fun a b e ha => ?_⟩
  obtain ⟨r, hr, rfl, rfl⟩ := mem_ends.mp e
  exact hs r hr ha
/-- within a turn that began with b0, behind i of the roads -/
def Within (rs : List Road) (b0 : List Bool) (i : Nat) (bs : List Bool) : Prop := (bs = b0 ∧ ∀ j r, j < i → rs[j]? = some r → Mk b0 r.1 → Mk b0 r.2.1) ∨ (cnt b0 < cnt bs ∧ ¬ Shut rs b0)
theorem within_start (rs : List Road) (b0 : List Bool) : Within rs b0 0 b0 := .inl ⟨rfl, fun _ _ h => absurd h (Nat.not_lt_zero _)⟩
theorem within_no {rs : List Road} {b0 bs : List Bool} {i : Nat} {r : Road} (h : Within rs b0 i bs) (hr : rs[i]? = some r) (hn : ¬ Mk bs r.1) : Within rs b0 (i + 1) bs := by
  rcases h with ⟨e, h⟩ | h
  · subst e
    refine .inl ⟨rfl, fun j z hj hz hm => ?_⟩
    by_cases q : j = i
    · subst q
      rw [hr] at hz
      cases hz
      exact absurd hm hn
    · exact h j z (by omega) hz hm
  · exact .inr h
theorem within_yes {rs : List Road} {b0 bs : List Bool} {i : Nat} {r : Road} (h : Within rs b0 i bs) (hr : rs[i]? = some r) (hi : r.2.1.toNat < bs.length) (h1 : Mk bs r.1) : Within rs b0 (i + 1) (bs.set r.2.1.toNat true) := by
  cases hb : bs[r.2.1.toNat] with
  | true =>
    have hb' : bs[r.2.1.toNat]? = some true := by rw [List.getElem?_eq_getElem hi, hb]
    rw [set_same hb']
    rcases h with ⟨e, h⟩ | h
    · subst e
      refine .inl ⟨rfl, fun j z hj hz hm => ?_⟩
      by_cases q : j = i
      · subst q
        rw [hr] at hz
        cases hz
        exact hb'
      · exact h j z (by omega) hz hm
    · exact .inr h
  | false =>
    have hb' : bs[r.2.1.toNat]? = some false := by rw [List.getElem?_eq_getElem hi, hb]
    have hc := cnt_set hb'
    rcases h with ⟨e, h⟩ | ⟨h, hs⟩
    · subst e
      refine .inr ⟨by omega, fun sh => ?_⟩
      have := sh r (List.mem_of_getElem? hr) h1
      unfold Mk at this
      rw [hb'] at this
      cases this
    · exact .inr ⟨by omega, hs⟩
/-- behind t turns -/
def Turned (rs : List Road) (t : Nat) (bs : List Bool) : Prop := Shut rs bs ∨ t + 1 ≤ cnt bs
theorem turned_next {rs : List Road} {t : Nat} {b0 bs : List Bool} (h : Turned rs t b0) (w : Within rs b0 rs.length bs) : Turned rs (t + 1) bs := by
  rcases w with ⟨e, w⟩ | ⟨w, hs⟩
  · subst e
    refine .inl fun r hr hm => ?_
    obtain ⟨j, hj⟩ := List.mem_iff_getElem?.mp hr
    exact w j r (List.getElem?_eq_some_iff.mp hj).1 hj hm
  · rcases h with h | h
    · exact absurd h hs
    · exact .inr (by omega)
theorem turned_end {rs : List Road} {bs : List Bool} {t : Nat} (h : Turned rs t bs) (hl : bs.length = t) : Shut rs bs := by
  rcases h with h | h
  · exact h
  · have := cnt_le bs
    omega
theorem cnt_pos {bs : List Bool} {v : Int} (h : Mk bs v) : 1 ≤ cnt bs := List.count_pos_iff.mpr (List.mem_of_getElem? h)
/-- the first marks -/
theorem marks0 {m root : Int} {rs : List Road} (h0 : 0 ≤ root) (h1 : root < m) : Sound m rs root ((rg m).map fun k => decide (k = root)) := by
  have hg : ∀ v : Int, 0 ≤ v → (Mk ((rg m).map fun k => decide (k = root)) v ↔ v = root ∧ v < m) := fun v hv => by
    unfold Mk
    by_cases hm : v < m
    · rw [List.getElem?_map, rg_get (by omega), Int.toNat_of_nonneg hv]
      simp [hm]
    · rw [List.getElem?_eq_none (by rw [List.length_map, rg_len]; omega)]
      simp [hm]
  refine ⟨by rw [List.length_map, rg_len], fun v hv hm => ?_, (hg root h0).mpr ⟨rfl, h1⟩⟩
  rw [((hg v hv).mp hm).1]
  exact .refl
theorem mapB (bs : List Bool) (i : Nat) (b : Bool) : (bs.set i b).map V.bl = (bs.map V.bl).set i (V.bl b) := by rw [List.map_set]
theorem pB {H : Hp} : ∀ {vs : List V} {bs : List Bool}, Paired (eB.R H) vs bs → vs = bs.map V.bl
  | _, _, .nil => rfl
  | _, _, .cons r t => by
    rw [pB t, show _ = V.bl _ from r]
    rfl
theorem pB' {H : Hp} : ∀ (bs : List Bool), Paired (eB.R H) (bs.map V.bl) bs
  | [] => .nil
  | _ :: r => .cons rfl (pB' r)
/-- (root + a) round m and (root + k) round m -/
theorem round_ne {m r a k : Int} (h0 : 0 ≤ r) (h1 : r < m) (ha : 0 ≤ a) (hak : a < k) (hk : k < m) : 0 ≤ (r + a) % m ∧ (r + a) % m < m ∧ 0 ≤ (r + k) % m ∧ (r + k) % m < m ∧ (r + a) % m ≠ (r + k) % m := by
  rw [emod_add_lt h0 h1 ha (by omega), emod_add_lt h0 h1 (by omega) hk]
  split <;> split <;> omega
end RR
namespace RR
open PySem L2 Evl PyProof.Rows
section
variable {α β γ δ ε : Type} {E : Enc α} {F : Enc β} {G : Enc γ} {n m : Nat}
variable {te ta tb tc tl : TE} {tt : TT} {σ : L2.St} {B H B0 H0 B1 H1 : Hp} {K : PySem.W.Frag} {D : Ends} {tu tw tz : TS} {i : Nat}
theorem k_catA {X : Cx} {K : PySem.W.Frag} (h : X.K = K) : OpR X (binaryOp .Add) (rCatA K) := h ▸ op_catA
theorem em_catS {S T : List α → Prop} (x0 : Ex B H) (ha : EvS (eL E) ta σ B H S) (hb : EvS (eL E) tb σ B H T) (hz : ∀ xs ys, S xs → T ys → xs.length + ys.length ≤ 100000) : EvM E (tOp rCat ta tb) σ B H (fun zs => ∃ xs ys, S xs ∧ T ys ∧ zs = xs ++ ys) := fun H1 e Q k =>
  ha H1 e _ fun v xs B2 H2 t hx hR =>
    hb.up ((Stp.go x0 e).trans t) H2 (Ex.refl _) _ fun w ys B3 H3 t2 hy hR2 => by
      obtain ⟨a, vs, rfl, q2, q3⟩ := hR
      obtain ⟨b, ws, rfl, q5, q6⟩ := hR2
      refine ⟨a, b, vs, ws, rfl, rfl, t2.bh _ _ (t2.eb _ _ q2), t2.bh _ _ q5, sz_of (by rw [pl q3, pl q6]; exact hz xs ys hx hy), fun p hp => ?_⟩
      have s := t.trans t2
      exact k p _ _ B3 _ (s.goH (Ex.new hp)) (fresh_back s.eh hp) (fresh_back s.bh hp) upd_same ⟨xs, ys, hx, hy, rfl⟩ (papp (E.ups t2.eb q3) q6)
theorem cutP_from (xs : List α) {c : Int} (h0 : 0 ≤ c) (h1 : c ≤ (xs.length : Int)) : cutP xs (some c) none = xs.drop c.toNat := by
  unfold cutP HT.sIx
  simp only
  have e : (if c < 0 then (c + (xs.length : Int)).toNat else min c.toNat xs.length) = c.toNat := by
    rw [if_neg (by omega)]
    omega
  first
    | (rw [e]; exact List.take_of_length_le (by rw [List.length_drop]; omega))
    | (simp [h0]; omega)
theorem cutP_to (xs : List α) {c : Int} (h0 : 0 ≤ c) (h1 : c ≤ (xs.length : Int)) : cutP xs none (some c) = xs.take c.toNat := by
  unfold cutP HT.sIx
  simp only
  have e : (if c < 0 then (c + (xs.length : Int)).toNat else min c.toNat xs.length) = c.toNat := by
    rw [if_neg (by omega)]
    omega
  first
    | (rw [e]; simp)
    | simp
theorem cutP_seg (xs : List α) {a b : Int} (ha : 0 ≤ a) (hb : 0 ≤ b) : (cutP xs (some a) (some b)).length ≤ (b - a).toNat := by
  unfold cutP HT.sIx
  simp only
  rw [List.length_take, List.length_drop]
  have e : ∀ c : Int, 0 ≤ c → (if c < 0 then (c + (xs.length : Int)).toNat else min c.toNat xs.length) = min c.toNat xs.length := fun c hc => if_neg (by omega)
  rw [e a ha, e b hb]
  omega
/-- t + u -/
theorem es_catT {S T : List α → Prop} (x0 : Ex B H) (ha : EvS (eT E) ta σ B H S) (hb : EvS (eT E) tb σ B H T) (hz : ∀ xs ys, S xs → T ys → xs.length + ys.length ≤ 100000) : EvS (eT E) (tOp (rCatA K) ta tb) σ B H (fun zs => ∃ xs ys, S xs ∧ T ys ∧ zs = xs ++ ys) := fun H1 e Q k =>
  ha H1 e _ fun v xs B2 H2 t hx hR =>
    hb.up ((Stp.go x0 e).trans t) H2 (Ex.refl _) _ fun w ys B3 H3 t2 hy hR2 => by
      obtain ⟨a, vs, rfl, q2, q3⟩ := hR
      obtain ⟨b, ws, rfl, q5, q6⟩ := hR2
      have q2' := t2.eb _ _ q2
      have q3' := E.ups t2.eb q3
      have s := t.trans t2
      refine ⟨a, b, vs, ws, rfl, rfl, SqT.of (t2.bh _ _ q2'), SqT.of (t2.bh _ _ q5), sz_of (by rw [pl q3, pl q6]; exact hz xs ys hx hy), fun e1 => ?_, fun e1 e2 => ?_, fun e1 e2 p hp => ?_⟩
      · subst e1
        cases q3'
        exact k _ ys B3 H3 s ⟨[], ys, hx, hy, rfl⟩ ⟨b, ws, rfl, q5, q6⟩
      · subst e2
        cases q6
        exact k _ xs B3 H3 s ⟨xs, [], hx, hy, (List.append_nil xs).symm⟩ ⟨a, vs, rfl, q2', q3'⟩
      · exact k _ _ (upd B3 p (.tup (vs ++ ws))) _ (s.trans (Stp.new t2.bh hp)) ⟨xs, ys, hx, hy, rfl⟩ ⟨p, _, rfl, upd_same, E.ups (Ex.new (fresh_back t2.bh hp)) (papp q3' q6)⟩
/-- if c: x = e -/
theorem c_ifSetI {b : Bool} {T : Int → Prop} (ht : EvT tt σ H b) (x0 : Ex B H) (h1 : b = true → EvS eI te σ B H T) (h2 : b = false → ∃ n, σ[i]? = some (some (.int n)) ∧ T n) (k : ∀ n B1 H1, Stp B H B1 H1 → T n → D.nx (σ.set i (some (.int n))) H1) :
    tIfS tt (tAsg te (gName i)) tNext D σ H :=
  s_when ht (fun hb H1 e => (h1 hb).up (Stp.go x0 e) H1 (Ex.refl _) _ fun v n B1 H2 s hT hR => by
    cases hR
    exact k n B1 H2 ((Stp.go x0 e).trans s) hT) (fun hb H1 e => by
    obtain ⟨n, hn, hT⟩ := h2 hb
    have q := k n B H1 (Stp.go x0 e) hT
    rw [set_same hn] at q
    exact q)
theorem q_ifSetE {b : Bool} {T : α → Prop} (ht : EvT tt σ H b) (x0 : Ex B H) (h1 : b = true → EvS E te σ B H T) (h2 : b = false → ∃ v y, σ[i]? = some (some v) ∧ T y ∧ E.R B v y) (k : ∀ v y B1 H1, Stp B H B1 H1 → T y → E.R B1 v y → tz D (σ.set i (some v)) H1) :
    tSeq (tIfS tt (tAsg te (gName i)) tNext) tz D σ H :=
  q_when ht (fun hb H1 e => (h1 hb).up (Stp.go x0 e) H1 (Ex.refl _) _ fun v n B1 H2 s hT hR => k v n B1 H2 ((Stp.go x0 e).trans s) hT hR) (fun hb H1 e => by
    obtain ⟨v, y, hn, hT, hR⟩ := h2 hb
    have q := k v y B H1 (Stp.go x0 e) hT hR
    rw [set_same hn] at q
    exact q)
theorem es_tup1S {S : α → Prop} (x0 : Ex B H) (ha : EvS E ta σ B H S) : EvS (eT E) (tTup (tCons ta tNil)) σ B H (fun xs => ∃ x, S x ∧ xs = [x]) := fun H1 e Q k =>
  ea_c (S := S) x0 mono_aN ha (ea_n x0) H1 e _ fun vs B2 H2 t hA => by
    obtain ⟨v, x, r, rfl, hS, hx, rfl⟩ := hA
    exact ⟨by show 1 ≤ sizeLine; decide, fun p hp => k (.ref p) [x] (upd B2 p (.tup [v])) _ (t.trans (Stp.new t.bh hp)) ⟨x, hS, rfl⟩ ⟨p, [v], rfl, upd_same, .cons (E.up (Ex.new (fresh_back t.bh hp)) hx) .nil⟩⟩
theorem em_lst2S {S T : α → Prop} (x0 : Ex B H) (ha : EvS E ta σ B H S) (hb : EvS E tb σ B H T) : EvM E (tLst (tCons ta (tCons tb tNil))) σ B H (fun xs => ∃ x y, S x ∧ T y ∧ xs = [x, y]) := fun H1 e Q k =>
  ea_c (S := S) x0 (mono_aC mono_aN) ha (ea_c (S := T) x0 mono_aN hb (ea_n x0)) H1 e _ fun vs B2 H2 t hA => by
    obtain ⟨v, x, r, rfl, hS, hx, w, y, r', rfl, hT, hy, rfl⟩ := hA
    exact ⟨by show 2 ≤ sizeLine; decide, fun p hp => k p [v, w] [x, y] B2 _ (t.goH (Ex.new hp)) (fresh_back t.eh hp) (fresh_back t.bh hp) upd_same ⟨x, y, hS, hT, rfl⟩ (.cons hx (.cons hy .nil))⟩
theorem es_ixLMS {S : List α → Prop} {j : Int} (x0 : Ex B H) (ha : EvS (eL E) ta σ B H S) (hb : EvE eI tb σ B H j) (h0 : 0 ≤ j) (h1 : ∀ xs, S xs → j < (xs.length : Int)) : EvS E (tOp (rIxL K) ta tb) σ B H (fun x => ∃ xs, S xs ∧ x ∈ xs) := fun H1 e Q k =>
  ha H1 e _ fun v xs B2 H2 t hS hR =>
    hb.up ((Stp.go x0 e).trans t) H2 (Ex.refl _) _ fun w j' B3 H3 t2 hj hw => by
      cases hj
      obtain ⟨a, vs, h1', h2, h3⟩ := (eL E).up t2.eb hR
      have hj : j.toNat < xs.length := by have := h1 xs hS; omega
      obtain ⟨u, h4, h5⟩ := pget h3 (List.getElem?_eq_getElem hj)
      exact ⟨a, vs, j, u, h1', hw, SqL.of (t2.bh _ _ h2), atI_of h0 h4, k u _ B3 H3 (t.trans t2) ⟨xs, hS, List.getElem_mem hj⟩ h5⟩
/-- a list of two unlike things -/
def eL2 (E : Enc α) (F : Enc β) : Enc (α × β) := ⟨fun H v x => ∃ a u w, v = .ref a ∧ H a = some (.lst [u, w]) ∧ E.R H u x.1 ∧ F.R H w x.2, fun e ⟨a, u, w, h1, h2, h3, h4⟩ => ⟨a, u, w, h1, e _ _ h2, E.up e h3, F.up e h4⟩⟩
def deL2 (D : De E n) (D' : De F m) : De (eL2 E F) (n + m + 1) := ⟨fun x => .list [D.d x.1, D'.d x.2], fun ⟨a, u, w, h1, h2, h3, h4⟩ => by
  subst h1
  exact .lst (SqL.of h2) (.cons (D.ok h3) (.cons (D'.ok h4) .nil)), fun x => by
    show (PyData.canLay0 (D.d x.1) && (PyData.canLay0 (D'.d x.2) && true)) = true
    rw [D.lay, D'.lay]
    rfl, fun x => by
    show max (PyData.depth (D.d x.1)) (max (PyData.depth (D'.d x.2)) 0) + 1 ≤ n + m + 1
    have h1 := D.dep x.1
    have h2 := D'.dep x.2
    omega⟩
theorem es_lst2 {x : α} {y : β} (x0 : Ex B H) (ha : EvE E ta σ B H x) (hb : EvE F tb σ B H y) : EvE (eL2 E F) (tLst (tCons ta (tCons tb tNil))) σ B H (x, y) := fun H1 e Q k =>
  ea_c x0 (mono_aC mono_aN) ha (ea_c x0 mono_aN hb (ea_n x0)) H1 e _ fun vs B2 H2 t hA => by
    obtain ⟨v, x', r, rfl, hS, hx, w, y', r', rfl, hT, hy, rfl⟩ := hA
    cases hS
    cases hT
    exact ⟨by show 2 ≤ sizeLine; decide, fun p hp => k (.ref p) (x, y) (upd B2 p (.lst [v, w])) _ (t.trans (Stp.new t.bh hp)) rfl ⟨p, v, w, rfl, upd_same, E.up (Ex.new (fresh_back t.bh hp)) hx, F.up (Ex.new (fresh_back t.bh hp)) hy⟩⟩
theorem es_l20 {t : α × β} (x0 : Ex B H) (ha : EvE (eL2 E F) ta σ B H t) : EvE E (tOp (rIxL K) ta (tC (.int 0))) σ B H t.1 :=
  es_op x0 ha (es_int x0) fun v w B2 H2 x2 ⟨a, u, w', h1, h2, h3, h4⟩ hw => ⟨u, h3, fun Q q => ⟨a, _, 0, u, h1, hw, SqL.of (x2 _ _ h2), atI_nat (j := 0) rfl, q⟩⟩
theorem es_l21 {t : α × β} (x0 : Ex B H) (ha : EvE (eL2 E F) ta σ B H t) : EvE F (tOp (rIxL K) ta (tC (.int 1))) σ B H t.2 :=
  es_op x0 ha (es_int x0) fun v w B2 H2 x2 ⟨a, u, w', h1, h2, h3, h4⟩ hw => ⟨w', h4, fun Q q => ⟨a, _, 1, w', h1, hw, SqL.of (x2 _ _ h2), atI_nat (j := 1) rfl, q⟩⟩
/-- min, max of two -/
def rMin2 : List V → Hp → VK → Prop := fun xs H Q => ∃ i j, xs = [V.int i, V.int j] ∧ Q (.int (if j < i then j else i)) H
theorem cl_min2 {X : Cx} (h : X.calm = true) : CallR X (.builtin "min") rMin2 := call_min2 h
theorem cl_max2 {X : Cx} (h : X.calm = true) : CallR X (.builtin "max") rMax2 := call_max2 h
theorem es_min2 {x y : Int} (x0 : Ex B H) (ha : EvE eI ta σ B H x) (hb : EvE eI tb σ B H y) : EvE eI (tCB rMin2 (tCons ta (tCons tb tNil))) σ B H (if y < x then y else x) :=
  es_cb2 x0 ha hb fun v w B2 H2 x2 hv hw Q k => ⟨x, y, by rw [show v = _ from hv, show w = _ from hw], k _ _ B2 H2 (Stp.refl x2) rfl rfl⟩
theorem es_max2 {x y : Int} (x0 : Ex B H) (ha : EvE eI ta σ B H x) (hb : EvE eI tb σ B H y) : EvE eI (tCB rMax2 (tCons ta (tCons tb tNil))) σ B H (if y > x then y else x) :=
  es_cb2 x0 ha hb fun v w B2 H2 x2 hv hw Q k => ⟨x, y, by rw [show v = _ from hv, show w = _ from hw], k _ _ B2 H2 (Stp.refl x2) rfl rfl⟩
/-- x = xs.pop(j) -/
theorem q_popAt {l : Addr} {xs : List V} {y : V} {j : Int} {r : Nat} (c : Cell H0 B H l (.lst xs)) (s0 : Stp B0 H0 B H) (ho : σ[i]? = some (some (.ref l))) (h : EvE eI te σ H H j) (h0 : 0 ≤ j) (hz : j < 100000) (hj : xs[j.toNat]? = some y)
    (k : ∀ H1, Stp B0 H0 B H1 → Cell H0 B H1 l (.lst (xs.eraseIdx j.toNat)) → (∀ p o, p ≠ l → Cell H0 B H p o → Cell H0 B H1 p o) → tz D (σ.set r (some y)) H1) :
    tSeq (tAsg (tBM K "list" rPopAt (tVar i) (tCons te tNil)) (gName r)) tz D σ H :=
  ⟨.ref l, ho, Or.inl ⟨rfl, xs, SqL.of c.h⟩, ev_sI h H (Ex.refl _) _ fun H1 e => ⟨l, xs, j, j.toNat, y, rfl, rfl, e _ _ c.h, by omega, by omega, by
    have hl := (List.getElem?_eq_some_iff.mp hj).1
    unfold seqIndex?
    first
      | (simp; omega)
      | (rw [if_neg (by omega)]; simp; omega)
      | (split <;> simp <;> omega), hj, k _ ((c.go e).mut (s0.goH e)) (c.go e).same (fun p o ne d => (d.go e).other ne)⟩⟩
/-- lo, lo + 1, .. below n -/
def rg2 (lo n : Int) : List Int := (List.range (n - lo).toNat).map fun (k : Nat) => lo + (k : Int)
theorem rg2_len (lo n : Int) : (rg2 lo n).length = (n - lo).toNat := by
  unfold rg2
  rw [List.length_map, List.length_range]
theorem rg2_get {lo n : Int} {i : Nat} (h : i < (n - lo).toNat) : (rg2 lo n)[i]? = some (lo + (i : Int)) := by
  unfold rg2
  rw [List.getElem?_map, List.getElem?_range h]
  rfl
theorem em_lcR2 {lo n : Int} {p : Int → Bool} {Tr : Int → β → Prop} {j : Nat} {vs : List Nat} (x0 : Ex B H) (h1 : EvE eI ta σ B H lo) (h : EvE eI tl σ B H n) (hz : -20000 ≤ lo ∧ lo ≤ 20000 ∧ -20000 ≤ n ∧ n ≤ 20000)
    (hw : ∀ v, wipe ((wipe σ vs).set j (some v)) vs = wipe σ vs)
    (ht : ∀ (k : Int) B1 H1, Stp B H B1 H1 → lo ≤ k → k < n → EvT tt ((wipe σ vs).set j (some (.int k))) H1 (p k))
    (he : ∀ (k : Int) B1 H1, Stp B H B1 H1 → lo ≤ k → k < n → p k = true → EvS F te ((wipe σ vs).set j (some (.int k))) B1 H1 (Tr k)) :
    EvM F (tLc (iRng2 (tCons ta (tCons tl tNil))) (gName j) tt te vs) σ B H (fun ys => Paired Tr ((rg2 lo n).filter p) ys) := fun H0 e Q k =>
  h1 H0 e _ fun v x' B1 H1 t hx hR => by
    cases hx
    cases hR
    exact h.up ((Stp.go x0 e).trans t) H1 (Ex.refl _) _ fun v2 x2 B2 H2 t2 hx2 hR2 => by
      cases hx2
      cases hR2
      have s0 := ((Stp.go x0 e).trans t).trans t2
      refine ⟨lo, n, rfl, ⟨by omega, by omega, by omega, by omega⟩, fun D hD => lc_range (lo := lo) (n := (n - lo).toNat) (Lw F Tr p B2 H2 D (rg2 lo n)) (lw_start t2.bh hD) (fun i H' hi hP => ?_) (fun H' hP => ?_)⟩
      · exact ⟨hw _, lw_turn hP (rg2_get hi) (by omega) (fun B' s => ht _ B' H' (s0.trans s) (by omega) (by omega)) (fun hp B' s => he _ B' H' (s0.trans s) (by omega) (by omega) hp)⟩
      · obtain ⟨B', acc, ys, s, c, q1, q2, q3⟩ := hP
        rw [← rg2_len lo n, List.take_length] at q2
        exact k D acc ys B' H' ((t.trans t2).trans s) (fresh_back (t.eh.trans t2.eh) hD) c.b c.h q2 q1
/-- xs == [] -/
theorem es_eqNil {xs : List α} (De1 : De E n) (hn : n + 1 ≤ 64) (x0 : Ex B H) (ha : EvE (eL E) ta σ B H xs) : EvE eB (tOp (rEqD K) ta (tLst tNil)) σ B H xs.isEmpty :=
  (es_eqD (deL De1) (deL De1) hn hn x0 ha (em_nil (E := E) x0).s).to (by
    cases xs with
    | nil => exact SeqAt.eqv_refl _ rfl
    | cons x r => rfl)
theorem perase {R : V → α → Prop} : ∀ (i : Nat) {vs : List V} {xs : List α}, Paired R vs xs → Paired R (vs.eraseIdx i) (xs.eraseIdx i)
  | _, _, _, .nil => .nil
  | 0, _, _, .cons _ t => t
  | i + 1, _, _, .cons r t => .cons r (perase i t)
theorem es_sumS {S : List Int → Prop} (x0 : Ex B H) (h : EvS (eL eI) ta σ B H S) : EvS eI (tCB (rSum K) (tCons ta tNil)) σ B H (fun y => ∃ ns, S ns ∧ y = ns.sum) := fun H1 e Q k =>
  h H1 e _ fun v ns B2 H2 t hS hR => by
    obtain ⟨a, h1, h2⟩ := eLI hR
    exact ⟨a, ns, by rw [h1], SqL.of (t.bh _ _ h2), k _ _ B2 H2 t ⟨ns, hS, rfl⟩ rfl⟩
theorem em_lst1S {S : α → Prop} (x0 : Ex B H) (ha : EvS E ta σ B H S) : EvM E (tLst (tCons ta tNil)) σ B H (fun xs => ∃ x, S x ∧ xs = [x]) := fun H1 e Q k =>
  ea_c (S := S) x0 mono_aN ha (ea_n x0) H1 e _ fun vs B2 H2 t hA => by
    obtain ⟨v, x, r, rfl, hS, hx, rfl⟩ := hA
    exact ⟨by show 1 ≤ sizeLine; decide, fun p hp => k p [v] [x] B2 _ (t.goH (Ex.new hp)) (fresh_back t.eh hp) (fresh_back t.bh hp) upd_same ⟨x, hS, rfl⟩ (.cons hx .nil)⟩
end
end RR
/-! sorted(t, reverse=b) of a tuple of ints -/
namespace RR
open PySem PySem.Spec PyProof.Rows L2 Evl Srt SrtO SrtR
section
variable {prog : Program} {w : World} {A : Around} {E : Value → Shared → Prop} {s : Shared}
/-- a list of the tuple's items, at the next place -/
def colH (h : Heap) (items : Array Value) : Heap := (h.push { cls := .type "list", data := .seq ([] : List Value).toArray }).update h.objs.size (Obj.mapSeq (· ++ items))
theorem colH_size (h : Heap) (items : Array Value) : (colH h items).objs.size = h.objs.size + 1 := by
  unfold colH
  rw [Heap.size_update, size_push']
theorem colH_old {h : Heap} {items : Array Value} {b : Addr} {o : Obj} (e : h.get? b = some o) : (colH h items).get? b = some o := (Heap.get?_update_other _ _ (Nat.ne_of_gt (Heap.lt_size e))).trans (Heap.get?_push_of_some _ e)
theorem tup_collect {Q : List Value → Shared → Prop} {l : Addr} {o : Obj} {items : Array Value} {n : Nat} (ho : s.heap.get? l = some o) (hc : o.cls = .type "tuple") (hd : o.data = .seq items n) (hz : items.size ≤ sizeLine)
    (q : Q items.toList { s with heap := colH s.heap items }) : wpAny (model prog w) A (collect (.ref l)) Q E s := by
  have new : (s.heap.push { cls := .type "list", data := .seq ([] : List Value).toArray }).get? s.heap.objs.size = some { cls := .type "list", data := .seq #[] 0 } := Heap.get?_push_size _ rfl
  have new2 := Heap.get?_update_self (Obj.mapSeq (· ++ items)) new rfl
  have last : wpAny (model prog w) A (match Value.ref s.heap.objs.size with
      | Value.ref a => (do match (← load a).data with | Data.seq xs _ => pure xs.toList | _ => unsupported "internal:collect")
      | _ => unsupported "internal:collect") Q E { s with heap := colH s.heap items } := by
    show wpAny _ A (load s.heap.objs.size >>= _) _ _ { s with heap := (s.heap.push { cls := .type "list", data := .seq ([] : List Value).toArray }).update s.heap.objs.size (Obj.mapSeq (· ++ items)) }
    refine wpAny_bind (wpAny_load new2 (wpAny_pure ?_))
    show Q ((#[] : Array Value) ++ items).toList _
    rw [show ((#[] : Array Value) ++ items).toList = items.toList by simp]
    exact q
  have ext := wpAny_extend_seq (prog := prog) (w := w) (hsz := hz) (A := A) (R := fun r s' => r = .ok (.ret (.ref s.heap.objs.size)) ∧ s' = { s with heap := colH s.heap items })
    (s := { s with heap := s.heap.push { cls := .type "list", data := .seq ([] : List Value).toArray } }) _ l _ 0 (Or.inr rfl) new (Heap.get?_push_of_some _ ho) hc hd ⟨rfl, rfl⟩
  unfold collect
  refine wpAny_bind (wpAny_runValue (codeAny_builtin F.entry_proto_collect (by
    rw [Around.under_plainId F.plain_proto_collect _]
    show wpAny _ A.in1 (newList [] >>= fun z => again (.builtin "list.__iadd__" ⟨[z, .ref l], []⟩)) _ _ s
    refine wpAny_bind (wpAny_newObj_type (wpAny_pure ⟨plainId_quiet F.plain_list_iadd _, codeAny_builtin F.entry_list_iadd (by
      rw [Around.under_plainId F.plain_list_iadd _]
      show wpAny _ _ (Builtin.List.listExtendWith (Value.ref s.heap.objs.size) (Value.ref l) (Value.ref s.heap.objs.size)) _ _ _
      refine wpAny_mono ext (fun fin s' hh => ?_) (fun e s' hh => absurd hh.1 (by simp))
      cases fin with
      | done f =>
        obtain ⟨e1, e2⟩ := hh
        subst e2
        cases e1
        exact last
      | again c' => exact ⟨hh.1, codeAny_mono hh.2 fun r s'' hr => by
          obtain ⟨e1, e2⟩ := hr
          subst e1 e2
          exact last⟩)⟩)))))
theorem tup_sorted {l : Addr} {vs : List Value} {b : Bool} {ltv : Value → Value → Bool} {Q : Value → Shared → Prop} {o : Obj} {n : Nat} (O : Swo ltv) (ho : s.heap.get? l = some o) (hc : o.cls = .type "tuple") (hd : o.data = .seq vs.toArray n) (hz : vs.length ≤ sizeLine)
    (hS : 2 ≤ vs.length → ∀ (h1 : Heap) (a : Addr), h1.get? a = some (seqObj "list" vs.toArray 0) → (∀ b o, s.heap.get? b = some o → b ≠ a ∧ h1.get? b = some o) → SortableO prog w A.in1.in1 { s with heap := h1 } a vs ltv)
    (h : ∀ (out : List Value) (h1 : Heap) (p : Addr) (e : Nat), Srtd ltv out → Stb ltv out (if b = true then vs.reverse else vs) → s.heap.objs.size ≤ p → (∀ b o, s.heap.get? b = some o → h1.get? b = some o) →
      h1.get? p = some (seqObj "list" (if b = true then out.toArray.reverse else out.toArray) e) → Q (.ref p) { s with heap := h1 }) :
    wpAny (model prog w) A (call (.builtin "sorted") [.ref l] [(Str.ofString "reverse", .bool b)]) Q E s := by
  have hoL : ((colH s.heap vs.toArray).push (seqObj "list" vs.toArray 0)).get? (colH s.heap vs.toArray).objs.size = some (seqObj "list" vs.toArray 0) := Heap.get?_push_size _ rfl
  have kp : ∀ b o, s.heap.get? b = some o → b ≠ (colH s.heap vs.toArray).objs.size ∧ ((colH s.heap vs.toArray).push (seqObj "list" vs.toArray 0)).get? b = some o := fun b o e => by
    have e2 := colH_old (items := vs.toArray) e
    exact ⟨Nat.ne_of_lt (Heap.lt_size e2), Heap.get?_push_of_some _ e2⟩
  refine call_function_entry_kw kind_sorted plain_sorted entry_sorted (args_sorted_rev (Value.ref l) (Value.bool b)) (by
    unfold Builtin.«sorted»
    refine (wpAny_bind (m := checkCount "sorted" 1 1 _) (wpAny_pure (wpAny_bind (tup_collect ho hc hd (by simpa using hz) (wpAny_bind (wpAny_newList ?_ hz))))))
    refine wpAny_bind (wpAny_holding (wpAny_call_entry_kw (self := .ref (colH s.heap vs.toArray).objs.size) slot_list_sort ⟨_, hoL, rfl⟩ entry_list_sort ?_ (args_list_sort_rev (Value.ref (colH s.heap vs.toArray).objs.size) (Value.bool b))))
    refine list_sort_ordR O hoL hz (fun h2 => hS h2 _ _ hoL kp) fun out hs hb => ⟨_, rfl, ?_⟩
    obtain ⟨e, he⟩ := sortedHeap_at (vs := vs) (out := if b = true then out.toArray.reverse else out.toArray) hoL
    exact wpAny_pure ⟨_, rfl, h out _ (colH s.heap vs.toArray).objs.size e hs hb (by rw [colH_size]; exact Nat.le_succ _) (fun b o q => (sortedHeap_old (kp b o q).1 (Heap.lt_size (kp b o q).2)).trans (kp b o q).2) he⟩)
end
/-- sorted(t, reverse=b) -/
def rSortTR (K : PySem.W.Frag) (b : Bool) : List V → List V → Hp → VK → Prop := fun vs zs H Q => ∃ (a : Addr) (ns : List Int), vs = [V.ref a] ∧ zs = [V.bl b] ∧ SqT K H a (ns.map V.int) ∧
  ∀ (ns' : List Int) (p : Addr), ns'.Perm ns → H p = none → Q (.ref p) (upd H p (.lst (ns'.map V.int)))
theorem cl_sortTR {X : Cx} {K : PySem.W.Frag} {b : Bool} (hK : X.K = K) : CallRK X (.builtin "sorted") [Str.ofString "reverse"] (rSortTR K b) := by
  intro pins s σ H vs zs us ws Q I r rz h
  subst hK
  obtain ⟨a, ns, e1, e2, hs, q⟩ := h
  subst e1
  subst e2
  obtain ⟨its, rv, ⟨o, ho, hc, n, hd⟩, hz⟩ := I.tuple hs
  cases r with
  | cons r0 rr =>
    cases rr
    cases r0
    cases rz with
    | cons r1 rr =>
      cases rr
      cases r1
      have hi := rv.ints
      have hlen : its.length ≤ sizeLine := by rw [← rv.length]; exact hz
      refine tup_sorted SrtO.swo_int ho hc hd hlen (fun h2 h1 a' _ _ => SrtO.ints_sortable hi h2) fun out h1 p e k1 k2 k3 k4 k5 => ?_
      obtain ⟨ns', m1, m2, _⟩ := SrtR.ints_outR hi k1 k2
      refine ⟨.ref p, upd H p (.lst (ns'.map V.int)), I.laid (t' := s.toks) k4 k3 ⟨?_, _, e, vals_of_ints m1, by rw [Array.toArray_toList]; exact k5⟩, rfl, q ns' p m2 (I.hok.fresh k3)⟩
      rw [List.length_map, m2.length_eq]
      rw [List.length_map] at hz
      exact hz
section
variable {ta : TE} {σ : L2.St} {B H : Hp} {K : PySem.W.Frag} {b : Bool}
theorem em_sortTR {ns : List Int} (x0 : Ex B H) (h : EvE (eT eI) ta σ B H ns) : EvM eI (tCKw (rSortTR K b) (tCons ta tNil) (tCons (tC (.bl b)) tNil)) σ B H (fun ys => ys.Perm ns) := fun H1 e Q k =>
  h H1 e _ fun v x B2 H2 t hx hR => by
    cases hx
    obtain ⟨a, e1, h2⟩ := eTI hR
    exact ⟨a, ns, by rw [e1], rfl, SqT.of (t.bh _ _ h2), fun ns' p hp hq => k p _ ns' B2 _ (t.goH (Ex.new hq)) (fresh_back t.eh hq) (fresh_back t.bh hq) upd_same hp (pI' ns')⟩
theorem k_sortI {X : Cx} (h : X.K = K) : CallR X (.builtin "sorted") (rSortedI K) := h ▸ cr_sortedI
theorem em_sortI {T : List Int → Prop} (x0 : Ex B H) (h : EvS (eL eI) ta σ B H T) : EvM eI (tCB (rSortedI K) (tCons ta tNil)) σ B H (fun ys => ∃ ns, T ns ∧ ys.Perm ns ∧ ys.Pairwise (· ≤ ·)) := fun H1 e Q k =>
  h H1 e _ fun v x B2 H2 t hx hR => by
    obtain ⟨a, e1, h2⟩ := eLI hR
    exact ⟨a, x, by rw [e1], SqL.of (t.bh _ _ h2), fun ns' p hp hs hq => k p _ ns' B2 _ (t.goH (Ex.new hq)) (fresh_back t.eh hq) (fresh_back t.bh hq) upd_same ⟨x, hx, hp, hs⟩ (pI' ns')⟩
end
end RR
namespace RR
open PySem L2 Evl PyProof.Rows
def topS (i : Nat) : Stmt := PySem.Challenge.pw_rootroads_k07_what_are_prices.main.body.getD i (.Pass ⟨0, 0, 0, 0⟩)
abbrev s_is_whole : Stmt := topS 8
abbrev N_is_whole : List Str := ["thing"]
theorem sc_is_whole : FnScope N_is_whole ["thing"] (defScope s_is_whole) := ⟨rfl, rfl, rfl, by decide +kernel, rfl, by decide +kernel, by decide +kernel⟩
abbrev s_is_place : Stmt := topS 9
abbrev N_is_place : List Str := ["many", "thing"]
theorem sc_is_place : FnScope N_is_place ["many", "thing"] (defScope s_is_place) := ⟨rfl, rfl, rfl, by decide +kernel, rfl, by decide +kernel, by decide +kernel⟩
abbrev s_is_road : Stmt := topS 10
abbrev N_is_road : List Str := ["many", "thing"]
theorem sc_is_road : FnScope N_is_road ["many", "thing"] (defScope s_is_road) := ⟨rfl, rfl, rfl, by decide +kernel, rfl, by decide +kernel, by decide +kernel⟩
abbrev s_checked : Stmt := topS 11
abbrev N_checked : List Str := ["many", "roads", "road"]
theorem sc_checked : FnScope N_checked ["many", "roads"] (defScope s_checked) := ⟨rfl, rfl, rfl, by decide +kernel, rfl, by decide +kernel, by decide +kernel⟩
abbrev s_need_place : Stmt := topS 12
abbrev N_need_place : List Str := ["many", "place"]
theorem sc_need_place : FnScope N_need_place ["many", "place"] (defScope s_need_place) := ⟨rfl, rfl, rfl, by decide +kernel, rfl, by decide +kernel, by decide +kernel⟩
abbrev s_into : Stmt := topS 13
abbrev N_into : List Str := ["roads", "group", "found", "number", "road"]
theorem sc_into : FnScope N_into ["roads", "group"] (defScope s_into) := ⟨rfl, rfl, rfl, by decide +kernel, rfl, by decide +kernel, by decide +kernel⟩
abbrev s_left_over : Stmt := topS 15
abbrev N_left_over : List Str := ["roads", "prices", "left", "pair", "number", "road"]
theorem sc_left_over : FnScope N_left_over ["roads", "prices"] (defScope s_left_over) := ⟨rfl, rfl, rfl, by decide +kernel, rfl, by decide +kernel, by decide +kernel⟩
abbrev s_is_group : Stmt := topS 16
abbrev N_is_group : List Str := ["many", "root", "group", "at"]
theorem sc_is_group : FnScope N_is_group ["many", "root", "group"] (defScope s_is_group) := ⟨rfl, rfl, rfl, by decide +kernel, rfl, by decide +kernel, by decide +kernel⟩
abbrev s_agree : Stmt := topS 17
abbrev N_agree : List Str := ["one", "other", "both", "place"]
theorem sc_agree : FnScope N_agree ["one", "other"] (defScope s_agree) := ⟨rfl, rfl, rfl, by decide +kernel, rfl, by decide +kernel, by decide +kernel⟩
abbrev s_are_prices : Stmt := topS 18
abbrev N_are_prices : List Str := ["many", "roads", "root", "prices", "at", "group", "pair", "left"]
theorem sc_are_prices : FnScope N_are_prices ["many", "roads", "root", "prices"] (defScope s_are_prices) := ⟨rfl, rfl, rfl, by decide +kernel, rfl, by decide +kernel, by decide +kernel⟩
abbrev s__law_cell_at : Stmt := topS 20
abbrev N__law_cell_at : List Str := ["_law_script", "_law_k"]
theorem sc__law_cell_at : FnScope N__law_cell_at ["_law_script", "_law_k"] (defScope s__law_cell_at) := ⟨rfl, rfl, rfl, by decide +kernel, rfl, by decide +kernel, by decide +kernel⟩
abbrev s__law_mixed : Stmt := topS 21
abbrev N__law_mixed : List Str := ["_law_cell", "_law_k"]
theorem sc__law_mixed : FnScope N__law_mixed ["_law_cell", "_law_k"] (defScope s__law_mixed) := ⟨rfl, rfl, rfl, by decide +kernel, rfl, by decide +kernel, by decide +kernel⟩
abbrev s__law_borne : Stmt := topS 22
abbrev N__law_borne : List Str := ["_law_start", "_law_end", "_law_prices", "_law_pair"]
theorem sc__law_borne : FnScope N__law_borne ["_law_start", "_law_end", "_law_prices"] (defScope s__law_borne) := ⟨rfl, rfl, rfl, by decide +kernel, rfl, by decide +kernel, by decide +kernel⟩
abbrev s__law_price : Stmt := topS 23
abbrev N__law_price : List Str := ["_law_cell"]
theorem sc__law_price : FnScope N__law_price ["_law_cell"] (defScope s__law_price) := ⟨rfl, rfl, rfl, by decide +kernel, rfl, by decide +kernel, by decide +kernel⟩
abbrev s__law_pairs : Stmt := topS 24
abbrev N__law_pairs : List Str := ["_law_script", "_law_many", "_law_root", "_law_found", "_law_stretches", "_law_cell", "_law_one", "_law_group", "_law_middle", "_law_two", "_law_k"]
theorem sc__law_pairs : FnScope N__law_pairs ["_law_script", "_law_many", "_law_root"] (defScope s__law_pairs) := ⟨rfl, rfl, rfl, by decide +kernel, rfl, by decide +kernel, by decide +kernel⟩
abbrev s__law_spoilt : Stmt := topS 25
abbrev N__law_spoilt : List Str := ["_law_prices", "_law_cell", "_law_many", "_law_root", "_law_at", "_law_group", "_law_price_here", "_law_more", "_law_new", "_law_place", "_law_some"]
theorem sc__law_spoilt : FnScope N__law_spoilt ["_law_prices", "_law_cell", "_law_many", "_law_root"] (defScope s__law_spoilt) := ⟨rfl, rfl, rfl, by decide +kernel, rfl, by decide +kernel, by decide +kernel⟩
abbrev s__law_set : Stmt := topS 26
abbrev N__law_set : List Str := ["_law_group", "_law_many", "_law_root", "_law_at"]
theorem sc__law_set : FnScope N__law_set ["_law_group", "_law_many", "_law_root"] (defScope s__law_set) := ⟨rfl, rfl, rfl, by decide +kernel, rfl, by decide +kernel, by decide +kernel⟩
abbrev s__law_due : Stmt := topS 27
abbrev N__law_due : List Str := ["_law_many", "_law_roads", "_law_root", "_law_prices", "_law_at", "_law_group", "_law_other", "_law_both", "_law_road", "_law_place"]
theorem sc__law_due : FnScope N__law_due ["_law_many", "_law_roads", "_law_root", "_law_prices"] (defScope s__law_due) := ⟨rfl, rfl, rfl, by decide +kernel, rfl, by decide +kernel, by decide +kernel⟩
abbrev s_law : Stmt := topS 28
abbrev N_law : List Str := ["_law_script", "_law_many", "_law_root", "_law_prices", "_law_roads", "_law_cell", "_law_start", "_law_end", "_law_more", "_law_cost", "_law_handed", "_law_found"]
theorem sc_law : FnScope N_law ["_law_script"] (defScope s_law) := ⟨rfl, rfl, rfl, by decide +kernel, rfl, by decide +kernel, by decide +kernel⟩
structure Txt (K : PySem.W.Frag) (mg : Str → Option Value) : Prop where
  b_bool : mg "bool" = none
  b_enumerate : mg "enumerate" = none
  b_int : mg "int" = none
  b_isinstance : mg "isinstance" = none
  b_len : mg "len" = none
  b_list : mg "list" = none
  b_max : mg "max" = none
  b_min : mg "min" = none
  b_range : mg "range" = none
  b_sorted : mg "sorted" = none
  b_sum : mg "sum" = none
  b_tuple : mg "tuple" = none
  c_MOST_PLACES : ∃ t, mg "MOST_PLACES" = some (.int 12 t)
  c_MOST_ROADS : ∃ t, mg "MOST_ROADS" = some (.int 60 t)
  c_DEAREST : ∃ t, mg "DEAREST" = some (.int 10000000000000000000000000000000000000000 t)
section
variable {P : Program} {w : World} {K : PySem.W.Frag} {mg : Str → Option Value} {base : Heap}

abbrev sp_cell (K : PySem.W.Frag) : Sp := Spec (ar2 (eScr K) eI) (fun i => 0 ≤ i.2) eI (fun i y => y = cellM i.1 i.2)
theorem d__law_cell_at (F0 : FunAt K mg "_law_cell_at" s__law_cell_at) (T : Txt K mg)  : DefOk P w K mg base 1 "_law_cell_at" ["_law_script", "_law_k"] (sp_cell K) := by
  refine mk_def (k := 0) F0 sc__law_cell_at (fun _ _ _ _ _ _ us hl => match us, hl with | [_, _], _ => rfl) (fun _ => (lenC (lenC lenN))) ?_
  intro f cdv A0 outer s E i B H vs Q hr x0 hA hp q
  obtain ⟨v0, _, _, rfl, rfl, h0, v1, _, _, rfl, rfl, h1, rfl⟩ := hA
  obtain ⟨y0, y1⟩ := i
  (try dsimp only at h0); (try dsimp only at h1); (try dsimp only at hp); (try dsimp only at q)
  refine ⟨_, (pss_cons (ps_if (pt_cmpR op_lt (pv 1) (pe_callB (k_len (K := K) rfl) (by rfl) T.b_len (by decide +kernel) (pa_cons (pv 0) pa_nil)) (nomark _)) (pss_one (ps_ret (pe_ix (k_ixl (K := K) rfl) (pv 0) (pv 1) (fun _ _ => rfl)))) pss_nil)
      (pss_one (ps_ret pe_int))), ?_⟩
  cases h1
  refine q_when (et_sT (es_opB x0 (es_varI (i := 1) x0 rfl) (es_lenS x0 (es_var x0 rfl h0)))) (fun hb H1 e => ?_) (fun hb H1 e => ?_)
  · have hlt : y1 < (y0.length : Int) := of_decide_eq_true hb
    have hn : y1.toNat < y0.length := by omega
    have xz := x0.trans e
    refine c_ret (Stp.go x0 e) (es_ixS xz (es_var xz rfl h0) (es_varI (i := 1) xz rfl) hp (List.getElem?_eq_getElem hn)) fun w y B2 H2 s hy hR => q w y B2 H2 s ?_ hR
    rw [hy]
    unfold cellM
    rw [if_pos hlt, List.getD_eq_getElem?_getD, List.getElem?_eq_getElem hn]
    rfl
  · have hlt : ¬ y1 < (y0.length : Int) := of_decide_eq_false hb
    refine c_ret (Stp.go x0 e) (es_int (x0.trans e)) fun w y B2 H2 s hy hR => q w y B2 H2 s ?_ hR
    rw [hy]
    unfold cellM
    rw [if_neg hlt]

def mixedM (c k : Int) : Int := (c * 16807 + k * k * 7919 + k * 48271 + 11) % 2147483647
theorem mixedM_b (c k : Int) : 0 ≤ mixedM c k ∧ mixedM c k < 2147483647 := ⟨Int.emod_nonneg _ (by decide), Int.emod_lt_of_pos _ (by decide)⟩
theorem mixedM_bd (c k : Int) : Bd (mixedM c k) := Bd.small (by have := mixedM_b c k; omega)
abbrev sp_mixed : Sp := Spec (ar2 eI eI) (fun i => -1000 ≤ i.2 ∧ i.2 ≤ 1000) eI (fun i y => y = mixedM i.1 i.2)
theorem d__law_mixed (F0 : FunAt K mg "_law_mixed" s__law_mixed) (T : Txt K mg)  : DefOk P w K mg base 1 "_law_mixed" ["_law_cell", "_law_k"] sp_mixed := by
  refine mk_def (k := 0) F0 sc__law_mixed (fun _ _ _ _ _ _ us hl => match us, hl with | [_, _], _ => rfl) (fun _ => (lenC (lenC lenN))) ?_
  intro f cdv A0 outer s E i B H vs Q hr x0 hA hp q
  obtain ⟨v0, _, _, rfl, rfl, h0, v1, _, _, rfl, rfl, h1, rfl⟩ := hA
  obtain ⟨y0, y1⟩ := i
  (try dsimp only at h0); (try dsimp only at h1); (try dsimp only at hp); (try dsimp only at q)
  refine ⟨_, (pss_one (ps_ret (pe_op op_mod (pe_op op_add (pe_op op_add (pe_op op_add (pe_op op_mul (pv 0) pe_int) (pe_op op_mul (pe_op op_mul (pv 1) (pv 1)) pe_int)) (pe_op op_mul (pv 1) pe_int)) pe_int) pe_int))), ?_⟩
  cases h0
  cases h1
  exact c_ret (Stp.refl x0) (es_opC x0 (es_opI x0 (es_opI x0 (es_opI x0 (es_opC x0 (es_varI x0 rfl) (es_int x0) (.inr ⟨by decide, by decide⟩)) (es_opC x0 (es_opC x0 (es_varI x0 rfl) (es_varI x0 rfl) (.inl ⟨by omega, by omega⟩)) (es_int x0) (.inr ⟨by decide, by decide⟩))) (es_opC x0 (es_varI x0 rfl) (es_int x0) (.inr ⟨by decide, by decide⟩))) (es_int x0)) (es_int x0) (by first | (show (0 : Int) < _; omega) | (show (0 : Int) < _; decide +kernel))) q

abbrev sp_whole : Sp := Spec (ar1 eI) (fun _ => True) eB (fun _ y => y = true)
theorem d_is_whole (F0 : FunAt K mg "is_whole" s_is_whole) (T : Txt K mg)  : DefOk P w K mg base 1 "is_whole" ["thing"] sp_whole := by
  refine mk_def (k := 0) F0 sc_is_whole (fun _ _ _ _ _ _ us hl => match us, hl with | [_], _ => rfl) (fun _ => (lenC lenN)) ?_
  intro f cdv A0 outer s E i B H vs Q hr x0 hA hp q
  obtain ⟨v0, y0, _, rfl, rfl, h0, rfl⟩ := hA
  refine ⟨_, (pss_one (ps_ret (pe_and (pe_callB (k_isi (K := K) rfl) (by rfl) T.b_isinstance (by decide +kernel) (pa_cons (pv 0) (pa_cons (pe_bltn (v := .ty "int") (u := .type "int") (by rfl) T.b_int (by decide +kernel) rfl) pa_nil))) (pe_one (pe_not (pe_callB (k_isi (K := K) rfl) (by rfl) T.b_isinstance (by decide +kernel) (pa_cons (pv 0) (pa_cons (pe_bltn (v := .ty "bool") (u := .type "bool") (by rfl) T.b_bool (by decide +kernel) rfl) pa_nil)))))))), ?_⟩
  cases h0
  exact c_ret (Stp.refl x0) (es_andV x0 (es_isiI x0 (es_varI x0 rfl) k_ii) fun _ => es_notV x0 (es_isiI x0 (es_varI x0 rfl) k_ib)) fun w y B2 H2 s hy hR => q w y B2 H2 s hy hR

abbrev sp_place : Sp := Spec (ar2 eI eI) (fun _ => True) eB (fun i y => y = (decide (0 ≤ i.2) && decide (i.2 < i.1)))
theorem d_is_place (F0 : FunAt K mg "is_place" s_is_place) (T : Txt K mg) (G_is_whole : DefOk P w K mg base 1 "is_whole" ["thing"] sp_whole) : DefOk P w K mg base 2 "is_place" ["many", "thing"] sp_place := by
  refine mk_def (k := 1) F0 sc_is_place (fun _ _ _ _ _ _ us hl => match us, hl with | [_, _], _ => rfl) (fun _ => (lenC (lenC lenN))) ?_
  intro f cdv A0 outer s E i B H vs Q hr x0 hA hp q
  obtain ⟨v0, _, _, rfl, rfl, h0, v1, _, _, rfl, rfl, h1, rfl⟩ := hA
  obtain ⟨y0, y1⟩ := i
  (try dsimp only at h0); (try dsimp only at h1); (try dsimp only at hp); (try dsimp only at q)
  refine ⟨_, (pss_one (ps_ret (pe_and (pe_callD G_is_whole (hr.mono (by decide)) (by rfl) (pa_cons (pv 1) pa_nil)) (pe_one (pe_chain op_le op_lt pe_int (pv 1) (pv 0)))))), ?_⟩
  cases h0
  cases h1
  refine c_ret (Stp.refl x0) (es_andV (a := true) x0 (es_call y1 x0 (ea_c x0 mono_aN (es_varI x0 rfl) (ea_n x0)) True.intro) fun _ => (es_chain x0 (es_int x0) (es_varI x0 rfl) (es_varI x0 rfl) (fun v w B2 H2 hv hw Q q => ⟨_, _, hv, hw, q⟩) (fun v w B2 H2 hv hw Q q => ⟨_, _, hv, hw, q⟩))) fun w y B2 H2 s hy hR => q w y B2 H2 s ?_ hR
  rw [hy]
  rfl

abbrev sp_isroad : Sp := Spec (ar2 eI eR) (fun i => OkR i.1 i.2) eB (fun _ y => y = true)
theorem d_is_road (F0 : FunAt K mg "is_road" s_is_road) (T : Txt K mg) (G_is_whole : DefOk P w K mg base 1 "is_whole" ["thing"] sp_whole) (G_is_place : DefOk P w K mg base 2 "is_place" ["many", "thing"] sp_place) : DefOk P w K mg base 3 "is_road" ["many", "thing"] sp_isroad := by
  refine mk_def (k := 2) F0 sc_is_road (fun _ _ _ _ _ _ us hl => match us, hl with | [_, _], _ => rfl) (fun _ => (lenC (lenC lenN))) ?_
  intro f cdv A0 outer s E i B H vs Q hr x0 hA hp q
  obtain ⟨v0, _, _, rfl, rfl, h0, v1, _, _, rfl, rfl, h1, rfl⟩ := hA
  obtain ⟨y0, y1⟩ := i
  (try dsimp only at h0); (try dsimp only at h1); (try dsimp only at hp); (try dsimp only at q)
  refine ⟨_, (pss_cons (ps_if (pw_or (pt_not (pt_val (pe_callB (k_isi (K := K) rfl) (by rfl) T.b_isinstance (by decide +kernel) (pa_cons (pv 1) (pa_cons (pe_bltn (v := .ty "tuple") (u := .type "tuple") (by rfl) T.b_tuple (by decide +kernel) rfl) pa_nil))))) (pw_or1 (pt_cmpR op_ne (pe_callB (k_len (K := K) rfl) (by rfl) T.b_len (by decide +kernel) (pa_cons (pv 1) pa_nil)) pe_int (nomark _)))).pt (pss_one (ps_ret pe_bl)) pss_nil)
      (pss_cons (ps_if (pw_or (pt_not (pt_val (pe_callD G_is_place (hr.mono (by decide)) (by rfl) (pa_cons (pv 0) (pa_cons (pe_ix (k_ixt (K := K) rfl) (pv 1) pe_int (fun _ _ => rfl)) pa_nil))))) (pw_or (pt_not (pt_val (pe_callD G_is_place (hr.mono (by decide)) (by rfl) (pa_cons (pv 0) (pa_cons (pe_ix (k_ixt (K := K) rfl) (pv 1) pe_int (fun _ _ => rfl)) pa_nil))))) (pw_or1 (pt_cmpR op_eq (pe_ix (k_ixt (K := K) rfl) (pv 1) pe_int (fun _ _ => rfl)) (pe_ix (k_ixt (K := K) rfl) (pv 1) pe_int (fun _ _ => rfl)) (nomark _))))).pt (pss_one (ps_ret pe_bl)) pss_nil)
      (pss_one (ps_ret (pe_and (pe_callD G_is_whole (hr.mono (by decide)) (by rfl) (pa_cons (pe_ix (k_ixt (K := K) rfl) (pv 1) pe_int (fun _ _ => rfl)) pa_nil)) (pe_one (pe_chain op_le op_lt pe_int (pe_ix (k_ixt (K := K) rfl) (pv 1) pe_int (fun _ _ => rfl)) (pe_gI (by rfl) T.c_DEAREST)))))))), ?_⟩
  cases h0
  obtain ⟨k1, k2, k3, k4, k5, k6, k7⟩ := hp
  refine q_when (et_or (et_not (et_sB (es_isi3 x0 (es_var x0 rfl h1) k_tt))) fun _ => et_sT (es_neI x0 (es_len3 x0 (es_var x0 rfl h1)) (es_int x0))) (fun hb => by cases hb) (fun _ H1 e1 => ?_)
  refine q_when (et_or (et_not (et_sB (es_call (y0, y1.1) (x0.trans e1) (ea_c (x0.trans e1) (mono_aC mono_aN) (es_varI (x0.trans e1) rfl) (ea_c (x0.trans e1) mono_aN (es_30 (x0.trans e1) (es_var (x0.trans e1) rfl h1)) (ea_n (x0.trans e1)))) True.intro))) fun _ => et_or (et_not (et_sB (es_call (y0, y1.2.1) (x0.trans e1) (ea_c (x0.trans e1) (mono_aC mono_aN) (es_varI (x0.trans e1) rfl) (ea_c (x0.trans e1) mono_aN (es_31 (x0.trans e1) (es_var (x0.trans e1) rfl h1)) (ea_n (x0.trans e1)))) True.intro))) fun _ => et_sT (es_eqI (x0.trans e1) (es_30 (x0.trans e1) (es_var (x0.trans e1) rfl h1)) (es_31 (x0.trans e1) (es_var (x0.trans e1) rfl h1)))) (fun hb => ?_) (fun _ H2 e2 => ?_)
  · simp [k1, k2, k3, k4, k5] at hb
  refine c_ret ((Stp.go x0 e1).goH e2) (es_andV (a := true) ((x0.trans e1).trans e2) (es_call y1.2.2 ((x0.trans e1).trans e2) (ea_c ((x0.trans e1).trans e2) mono_aN (es_32 ((x0.trans e1).trans e2) (es_var ((x0.trans e1).trans e2) rfl h1)) (ea_n ((x0.trans e1).trans e2))) True.intro) fun _ => (es_chain ((x0.trans e1).trans e2) (es_int ((x0.trans e1).trans e2)) (es_32 ((x0.trans e1).trans e2) (es_var ((x0.trans e1).trans e2) rfl h1)) (es_int ((x0.trans e1).trans e2)) (fun v w B2 H2 hv hw Q q => ⟨_, _, hv, hw, q⟩) (fun v w B2 H2 hv hw Q q => ⟨_, _, hv, hw, q⟩))) fun w y B2 H3 s hy hR => q w y B2 H3 s ?_ hR
  rw [hy, decide_eq_true k6, decide_eq_true k7]
  rfl

abbrev sp_checked : Sp := Spec (ar2 eI (eL eR)) (fun i => Net i.1 i.2) eO (fun _ y => y = none)
theorem d_checked (F0 : FunAt K mg "checked" s_checked) (T : Txt K mg) (G_is_whole : DefOk P w K mg base 1 "is_whole" ["thing"] sp_whole) (G_is_road : DefOk P w K mg base 3 "is_road" ["many", "thing"] sp_isroad) : DefOk P w K mg base 4 "checked" ["many", "roads"] sp_checked := by
  refine mk_def (k := 3) F0 sc_checked (fun _ _ _ _ _ _ us hl => match us, hl with | [_, _], _ => rfl) (fun _ => (lenC (lenC lenN))) ?_
  intro f cdv A0 outer s E i B H vs Q hr x0 hA hp q
  obtain ⟨v0, _, _, rfl, rfl, h0, v1, _, _, rfl, rfl, h1, rfl⟩ := hA
  obtain ⟨y0, y1⟩ := i
  (try dsimp only at h0); (try dsimp only at h1); (try dsimp only at hp); (try dsimp only at q)
  refine ⟨_, (pss_cons (ps_if (pw_or (pt_not (pt_val (pe_callD G_is_whole (hr.mono (by decide)) (by rfl) (pa_cons (pv 0) pa_nil)))) (pw_or1 (pt_not (pt_chain op_le op_le pe_int (pv 0) (pe_gI (by rfl) T.c_MOST_PLACES))))).pt (pss_one ps_never) pss_nil)
      (pss_cons (ps_if (pw_or (pt_not (pt_val (pe_callB (k_isi (K := K) rfl) (by rfl) T.b_isinstance (by decide +kernel) (pa_cons (pv 1) (pa_cons (pe_bltn (v := .ty "list") (u := .type "list") (by rfl) T.b_list (by decide +kernel) rfl) pa_nil))))) (pw_or1 (pt_cmpR op_gt (pe_callB (k_len (K := K) rfl) (by rfl) T.b_len (by decide +kernel) (pa_cons (pv 1) pa_nil)) (pe_gI (by rfl) T.c_MOST_ROADS) (nomark _)))).pt (pss_one ps_never) pss_nil)
      (pss_one (ps_for PassesOwn.never rfl (pi_list (pv 1)) (pg_name (i := 2) sc_checked.nd rfl (by first | exact Or.inl rfl | exact Or.inr rfl)) (pss_one (ps_if (pt_not (pt_val (pe_callD G_is_road (hr.mono (by decide)) (by rfl) (pa_cons (pv 0) (pa_cons (pv 2) pa_nil))))) (pss_one ps_never) pss_nil)))))), ?_⟩
  cases h0
  have hlo := hp.lo
  have hhi := hp.hi
  have hlen := hp.len
  refine q_when (et_or (et_not (et_sB (es_call y0 x0 (ea_c x0 mono_aN (es_varI x0 rfl) (ea_n x0)) True.intro))) fun _ => et_not (et_sT (es_chain x0 (es_int x0) (es_varI x0 rfl) (es_int x0) (fun v w B2 H2 hv hw Q q => ⟨_, _, hv, hw, q⟩) (fun v w B2 H2 hv hw Q q => ⟨_, _, hv, hw, q⟩)))) (fun hb => ?_) (fun _ H1 e1 => ?_)
  · simp at hb
    omega
  refine q_when (et_or (et_not (et_sB (es_isiL (x0.trans e1) (es_var (x0.trans e1) rfl h1) k_ll))) fun _ => et_sT (es_opB (x0.trans e1) (es_lenL (x0.trans e1) (es_var (x0.trans e1) rfl h1)) (es_int (x0.trans e1)))) (fun hb => ?_) (fun _ H2 e2 => ?_)
  · simp at hb
    omega
  have s0 := (Stp.go x0 e1).goH e2
  refine c_forE s0.bh ⟨_, ev_var rfl, h1⟩ (fun i σ' H' => ∃ a, σ' = [some (.int y0), some v1, a] ∧ Stp B H B H') (fun H3 e3 => ⟨none, rfl, s0.goH e3⟩) (fun i σ' H' ⟨_, _, s⟩ => s.bh) (fun i r v σ' H' hi hv w => ?_) (fun σ' H' w => ?_)
  · obtain ⟨a, rfl, s⟩ := w
    have hr : OkR y0 r := hp.ok r (List.mem_of_getElem? hi)
    exact s_when (et_not (et_sB (es_call (y0, r) s.bh (ea_c s.bh (mono_aC mono_aN) (es_varI s.bh rfl) (ea_c s.bh mono_aN (es_var s.bh rfl hv) (ea_n s.bh))) hr))) (fun hb => by cases hb) fun _ H5 e5 => ⟨_, rfl, s.goH e5⟩
  · obtain ⟨a, rfl, s⟩ := w
    exact q .non none B H' s rfl rfl

abbrev sp_need : Sp := Spec (ar2 eI eI) (fun i => 0 ≤ i.2 ∧ i.2 < i.1) eO (fun _ y => y = none)
theorem d_need_place (F0 : FunAt K mg "need_place" s_need_place) (T : Txt K mg) (G_is_place : DefOk P w K mg base 2 "is_place" ["many", "thing"] sp_place) : DefOk P w K mg base 3 "need_place" ["many", "place"] sp_need := by
  refine mk_def (k := 2) F0 sc_need_place (fun _ _ _ _ _ _ us hl => match us, hl with | [_, _], _ => rfl) (fun _ => (lenC (lenC lenN))) ?_
  intro f cdv A0 outer s E i B H vs Q hr x0 hA hp q
  obtain ⟨v0, _, _, rfl, rfl, h0, v1, _, _, rfl, rfl, h1, rfl⟩ := hA
  obtain ⟨y0, y1⟩ := i
  (try dsimp only at h0); (try dsimp only at h1); (try dsimp only at hp); (try dsimp only at q)
  refine ⟨_, (pss_one (ps_if (pt_not (pt_val (pe_callD G_is_place (hr.mono (by decide)) (by rfl) (pa_cons (pv 0) (pa_cons (pv 1) pa_nil))))) (pss_one ps_never) pss_nil)), ?_⟩
  cases h0
  cases h1
  exact s_when (et_not (et_sB (es_call (y0, y1) x0 (ea_c x0 (mono_aC mono_aN) (es_varI x0 rfl) (ea_c x0 mono_aN (es_varI x0 rfl) (ea_n x0))) True.intro))) (fun hb => by simp [hp.1, hp.2] at hb) fun _ H5 e5 => q .non none B _ (Stp.go x0 e5) rfl rfl

def comesIn (r : Road) (g : List Int) : Bool := decide (r.2.1 ∈ g) && !decide (r.1 ∈ g)
def intoM (rs : List Road) (g : List Int) : List Int := sel (fun r => comesIn r g) rs rs.length
abbrev sp_into : Sp := SpecM (ar2 (eL eR) (eT eI)) (fun i => i.1.length ≤ 100) eI (fun i y => y = intoM i.1 i.2)
theorem d_into (F0 : FunAt K mg "into" s_into) (T : Txt K mg)  : DefOk P w K mg base 1 "into" ["roads", "group"] sp_into := by
  refine mk_defM (k := 0) F0 sc_into (fun _ _ _ _ _ _ us hl => match us, hl with | [_, _], _ => rfl) (fun _ => (lenC (lenC lenN))) ?_
  intro f cdv A0 outer s E i B H vs Q hr x0 hA hp q
  obtain ⟨v0, _, _, rfl, rfl, h0, v1, _, _, rfl, rfl, h1, rfl⟩ := hA
  obtain ⟨y0, y1⟩ := i
  (try dsimp only at h0); (try dsimp only at h1); (try dsimp only at hp); (try dsimp only at q)
  refine ⟨_, (pss_cons (ps_set (i := 2) sc_into.nd rfl (by first | exact Or.inl rfl | exact Or.inr rfl) (pe_lst pa_nil))
      (pss_cons (ps_for PassesOwn.never rfl (pi_enum (by rfl) T.b_enumerate (pa_cons (pv 0) pa_nil)) (pg_tup rfl (pgs_cons (pg_name (i := 3) sc_into.nd rfl (by first | exact Or.inl rfl | exact Or.inr rfl)) (pgs_cons (pg_name (i := 4) sc_into.nd rfl (by first | exact Or.inl rfl | exact Or.inr rfl)) pgs_nil))) (pss_one (ps_if (pw_and (pt_cmpR (k_in (K := K) rfl) (pe_ix (k_ixt (K := K) rfl) (pv 4) pe_int (fun _ _ => rfl)) (pv 1) (by rfl)) (pw_and1 (pt_cmpR (k_notin (K := K) rfl) (pe_ix (k_ixt (K := K) rfl) (pv 4) pe_int (fun _ _ => rfl)) (pv 1) (by rfl)))).pt (pss_one (ps_expr (pe_bm PySem.F.plainAttrs_list PySem.F.slot_list_append PySem.F.type_list_append mt_append (pv 2) (pa_cons (pv 3) pa_nil)))) pss_nil)))
      (pss_one (ps_ret (pv 2))))), ?_⟩
  have hz : y0.length ≤ 100 := hp
  refine q_setM (em_nil (E := eI) x0) fun l vs xs B1 H1 s1 nl bl hl hS hR => ?_
  cases hS
  cases hR
  have c1 : Cell H B1 H1 l (.lst []) := ⟨nl, bl, hl⟩
  refine q_forEn (E := eR) s1.bh ⟨v0, ev_var rfl, Enc.up _ s1.eb h0⟩ (fun i σ' H' => ∃ a b B', σ' = [some v0, some v1, some (.ref l), a, b] ∧ Stp B H B' H' ∧ Ex B1 B' ∧ Cell H B' H' l (.lst ((sel (fun r => comesIn r y1) y0 i).map V.int)))
    (fun H2 e => ⟨none, none, B1, rfl, s1.goH e, Ex.refl _, c1.go e⟩) (fun i σ' H' w => ?_) (fun i r v σ' H' H2 hi hr w e2 => ?_) (fun σ' H' w => ?_)
  · obtain ⟨a, b, B', _, s, eb, _⟩ := w
    exact eb.trans s.bh
  · obtain ⟨a, b, B', rfl, s, eb1, c⟩ := w
    have hi60 : i < 100 := by
      have q1 := (List.getElem?_eq_some_iff.mp hi).1
      omega
    have eb : Ex B B' := s.eb
    have s2 := s.goH e2
    have xz : Ex B' H2 := s2.bh
    have rz : eR.R B' v r := Enc.up _ eb1 hr
    refine s_when (et_and (et_sT (es_inT xz (es_31 xz (es_var xz rfl rz)) (es_var xz rfl (Enc.up _ eb h1)))) fun _ => (et_sT (es_ninT xz (es_30 xz (es_var xz rfl rz)) (es_var xz rfl (Enc.up _ eb h1))))) (fun hb H3 e3 => ?_) (fun hb H3 e3 => ?_)
    · have hc : comesIn r y1 = true := hb
      refine c_app (i := 2) ((c.go e2).go e3) (s2.goH e3) rfl ?_ (es_varI (i := 3) (xz.trans e3) rfl) fun w y B3 H4 s4 eb4 c4 _ hy hw => ?_
      · rw [List.length_map]
        have := sel_len (fun r => comesIn r y1) y0 i
        omega
      · cases hy
        cases hw
        refine ⟨_, _, B3, rfl, s4, eb1.trans eb4, ?_⟩
        rw [sel_yes hi hc, map_snoc]
        exact c4
    · have hc : comesIn r y1 = false := hb
      refine ⟨_, _, B', rfl, s2.goH e3, eb1, ?_⟩
      rw [sel_no hi hc]
      exact (c.go e2).go e3
  · obtain ⟨a, b, B', rfl, s, eb1, c⟩ := w
    refine s_ret (ev_var (v := .ref l) rfl) fun H2 e2 => ?_
    have c' := c.go e2
    exact q l _ _ B' H2 (s.goH e2) c'.n c'.b c'.h rfl (pI' _)

abbrev Price := List Int × Int
abbrev eP : Enc Price := e2 (eT eI) eI
/-- what a road bears -/
def borne (r : Road) (ps : List Price) : Int := (ps.map fun p => if comesIn r p.1 then p.2 else 0).sum
theorem borne_nil (r : Road) : borne r [] = 0 := rfl
theorem borne_snoc (r : Road) (ps : List Price) (p : Price) : borne r (ps ++ [p]) = borne r ps + if comesIn r p.1 then p.2 else 0 := by
  unfold borne
  rw [List.map_append, List.sum_append]
  simp
/-- the list of f of each road -/
def Each (rs : List Road) (f : Nat → Road → Int) (ls : List Int) : Prop := ls.length = rs.length ∧ ∀ n r, rs[n]? = some r → ls[n]? = some (f n r)
theorem Each.congr {rs : List Road} {f g : Nat → Road → Int} {ls : List Int} (h : Each rs f ls) (e : ∀ n r, rs[n]? = some r → f n r = g n r) : Each rs g ls := ⟨h.1, fun n r hr => by rw [h.2 n r hr, e n r hr]⟩
theorem Each.set {rs : List Road} {f : Nat → Road → Int} {ls : List Int} {k : Nat} {v : Int} (h : Each rs f ls) (hk : k < rs.length) : Each rs (fun n r => if n = k then v else f n r) (ls.set k v) := by
  refine ⟨by rw [List.length_set]; exact h.1, fun n r hr => ?_⟩
  rw [List.getElem?_set]
  by_cases e : k = n
  · subst e
    rw [if_pos rfl, if_pos (by rw [h.1]; exact hk)]
    show some v = some (if k = k then v else f k r)
    rw [if_pos rfl]
  · rw [if_neg e]
    show ls[n]? = some (if n = k then v else f n r)
    rw [if_neg (fun q : n = k => e q.symm)]
    exact h.2 n r hr
theorem each_map (rs : List Road) (g : Road → Int) : Each rs (fun _ r => g r) (rs.map g) := ⟨by rw [List.length_map], fun n r hr => by rw [List.getElem?_map, hr]; rfl⟩
theorem each_eq {rs : List Road} {g : Road → Int} {ls : List Int} (h : Each rs (fun _ r => g r) ls) : ls = rs.map g := by
  refine List.ext_getElem? fun n => ?_
  rw [List.getElem?_map]
  cases hr : rs[n]? with
  | none =>
    have := List.getElem?_eq_none_iff.mp hr
    exact List.getElem?_eq_none (by rw [h.1]; exact this)
  | some r => exact h.2 n r hr
theorem sel_nodup {α : Type} (p : α → Bool) (xs : List α) (i : Nat) : (sel p xs i).Nodup := by
  refine up_nodup ?_
  unfold sel Up
  rw [List.pairwise_map]
  exact (List.Pairwise.sublist List.filter_sublist List.pairwise_lt_range).imp fun h => by omega
def leftM (rs : List Road) (ps : List Price) : List Int := rs.map fun r => r.2.2 - borne r ps
/-- one number more is taken off -/
theorem each_off {rs : List Road} {g : Road → Int} {ls ns : List Int} {j k : Nat} {pr : Int} (h : Each rs (fun n r => g r - if (n : Int) ∈ ns.take j then pr else 0) ls) (hn : ns.Nodup) (hj : ns[j]? = some (k : Int)) (hk : k < rs.length) {x : Int} (hx : ls[k]? = some x) :
    Each rs (fun n r => g r - if (n : Int) ∈ ns.take (j + 1) then pr else 0) (ls.set k (x - pr)) := by
  have hr : rs[k]? = some rs[k] := List.getElem?_eq_getElem hk
  have h1 := h.2 k _ hr
  rw [hx] at h1
  have hnot : ¬ (k : Int) ∈ ns.take j := fun hm => by
    obtain ⟨i, hi, e⟩ := List.mem_take_iff_getElem.mp hm
    obtain ⟨h2, e2⟩ := List.getElem?_eq_some_iff.mp hj
    have := (List.getElem_inj hn).mp (e.trans e2.symm)
    omega
  have h1 : x = g rs[k] - if (k : Int) ∈ ns.take j then pr else 0 := Option.some.inj h1
  rw [if_neg hnot] at h1
  refine (h.set (v := x - pr) hk).congr fun n r hr' => ?_
  have hta : ns.take (j + 1) = ns.take j ++ [(k : Int)] := by rw [List.take_add_one, hj, Option.toList_some]
  rw [hta]
  by_cases e : n = k
  · subst e
    rw [if_pos rfl, if_pos (List.mem_append_right _ (List.mem_singleton.mpr rfl))]
    rw [hr] at hr'
    cases hr'
    omega
  · rw [if_neg e]
    by_cases hm : (n : Int) ∈ ns.take j
    · rw [if_pos hm, if_pos (List.mem_append_left _ hm)]
    · rw [if_neg hm, if_neg]
      intro q
      rcases List.mem_append.mp q with q | q
      · exact hm q
      · have := List.mem_singleton.mp q
        omega
abbrev sp_left : Sp := SpecM (ar2 (eL eR) (eL eP)) (fun i => i.1.length ≤ 100 ∧ i.2.length ≤ 100) eI (fun i y => y = leftM i.1 i.2)
theorem d_left_over (F0 : FunAt K mg "left_over" s_left_over) (T : Txt K mg) (G_into : DefOk P w K mg base 1 "into" ["roads", "group"] sp_into) : DefOk P w K mg base 2 "left_over" ["roads", "prices"] sp_left := by
  refine mk_defM (k := 1) F0 sc_left_over (fun _ _ _ _ _ _ us hl => match us, hl with | [_, _], _ => rfl) (fun _ => (lenC (lenC lenN))) ?_
  intro f cdv A0 outer s E i B H vs Q hr x0 hA hp q
  obtain ⟨v0, _, _, rfl, rfl, h0, v1, _, _, rfl, rfl, h1, rfl⟩ := hA
  obtain ⟨y0, y1⟩ := i
  (try dsimp only at h0); (try dsimp only at h1); (try dsimp only at hp); (try dsimp only at q)
  refine ⟨_, (pss_cons (ps_setLc (i := 2) (own := [("road", 5)]) (g := gName 5) rfl sc_left_over.nd rfl rfl (sw_true rfl rfl rfl (by decide +kernel)) (pi_list (pv 0)) (blkOk_by (N := N_left_over) (sc := defScope s_left_over) (by decide +kernel)) (fun _ _ _ _ _ => pg_name (i := 5) sc_left_over.nd rfl (Or.inl rfl)) (fun _ _ _ _ _ => pts_nil) (fun _ _ _ _ _ => (pe_ix (k_ixt (K := K) rfl) (pv 5) pe_int (fun _ _ => rfl))))
      (pss_cons (ps_for PassesOwn.never rfl (pi_list (pv 1)) (pg_name (i := 3) sc_left_over.nd rfl (by first | exact Or.inl rfl | exact Or.inr rfl)) (pss_one (ps_for PassesOwn.never rfl (pi_list (pe_callD G_into (hr.mono (by decide)) (by rfl) (pa_cons (pv 0) (pa_cons (pe_ix (k_ixt (K := K) rfl) (pv 3) pe_int (fun _ _ => rfl)) pa_nil)))) (pg_name (i := 4) sc_left_over.nd rfl (by first | exact Or.inl rfl | exact Or.inr rfl)) (pss_one (ps_asg (pe_op op_sub (pe_ix (k_ixl (K := K) rfl) (pv 2) (pv 4) (fun _ _ => rfl)) (pe_ix (k_ixt (K := K) rfl) (pv 3) pe_int (fun _ _ => rfl))) (pg_sub (pv 2) (pv 4) set_list))))))
      (pss_one (ps_ret (pv 2))))), ?_⟩
  obtain ⟨hl0, hl1⟩ := hp
  refine q_setM (i := 2) (em_lcL (E := eR) (F := eI) (p := fun _ => true) (Tr := fun r y => y = r.2.2) x0 (es_var x0 rfl h0) (by omega) (fun v => rfl) (fun _ _ _ _ _ _ _ => et_yes) (fun r v B2 H2 s2 _ hr _ => es_32 s2.bh (es_var s2.bh rfl hr))) fun l vs xs B1 H1 s1 nl bl hl hx hpp => ?_
  rw [filter_yes] at hx
  have hx := pair_fun (f := fun r : Road => r.2.2) hx
  subst hx
  rw [pI hpp] at hl
  have c1 : Cell H B1 H1 l (.lst ((y0.map fun r => r.2.2).map V.int)) := ⟨nl, bl, hl⟩
  replace h0 := Enc.up _ s1.eb h0
  replace h1 := Enc.up _ s1.eb h1
  have hE : Each y0 (fun _ r => r.2.2 - borne r (y1.take 0)) (y0.map fun r => r.2.2) := (each_map y0 fun r => r.2.2).congr fun n r _ => by rw [List.take_zero, borne_nil]; omega
  clear hpp nl bl hl
  refine q_forE (E := eP) s1.bh ⟨_, ev_var (i := 1) rfl, h1⟩ (fun i σ' H' => ∃ a b B', ∃ ls : List Int, σ' = [some v0, some v1, some (.ref l), a, b, none] ∧ Stp B H B' H' ∧ Ex B1 B' ∧ Cell H B' H' l (.lst (ls.map V.int)) ∧ Each y0 (fun _ r => r.2.2 - borne r (y1.take i)) ls)
    (fun H2 e2 => ⟨none, none, B1, _, rfl, s1.goH e2, Ex.refl _, c1.go e2, hE⟩) (fun i σ' H' ⟨_, _, _, _, _, s, eb, _⟩ => eb.trans s.bh) (fun i pr v σ' H' hi hv w => ?_) (fun σ' H' w => ?_)
  · obtain ⟨a, b, B', ls, rfl, s2, eb, c2, hE2⟩ := w
    have h0' := Enc.up _ eb h0
    have hv' := Enc.up _ eb hv
    have x2 := s2.bh
    refine c_forL (E := eI) (T := fun ys => ys = intoM y0 pr.1) (em_call (y0, pr.1) x2 (ea_c x2 (mono_aC mono_aN) (es_var x2 rfl h0') (ea_c x2 mono_aN (es_20 x2 (es_var (E := eP) (i := 3) x2 rfl hv')) (ea_n x2))) hl0).s
      (fun ns B2 j σ' H' => ∃ b, ∃ ls : List Int, σ' = [some v0, some v1, some (.ref l), some v, b, none] ∧ Stp B H B2 H' ∧ Cell H B2 H' l (.lst (ls.map V.int)) ∧ Each y0 (fun n r => (r.2.2 - borne r (y1.take i)) - if (n : Int) ∈ ns.take j then pr.2 else 0) ls)
      (fun ns B2 H2 s3 hT => ⟨_, ls, rfl, s2.trans s3, c2.up s3, hE2.congr fun n r _ => by simp⟩) (fun ns B2 j σ' H' ⟨_, _, _, s, _⟩ => s.bh) (fun ns B2 j n w σ' H' hT eb2 hj hw W => ?_) (fun ns B2 σ' H' hT eb2 W => ?_)
    · obtain ⟨b, ls, rfl, s3, c3, hE3⟩ := W
      cases hw
      subst hT
      have hmem := mem_sel.mp (List.mem_of_getElem? hj)
      obtain ⟨g0, g1, r, g2, g3⟩ := hmem
      obtain ⟨k, rfl⟩ : ∃ k : Nat, n = (k : Int) := ⟨n.toNat, by omega⟩
      have hk : k < y0.length := by omega
      have hkl : k < ls.length := by rw [hE3.1]; exact hk
      have x3 := Ex.refl H'
      refine c_setL (i := 2) (j := k) (v := .int (ls[k] - pr.2)) c3 s3 (ev_sI (es_opI x3 (es_ixL (E := eI) (x := ls[k]) x3 (es_var x3 rfl (cell_L c3 (pI' ls))) (es_varI (i := 4) x3 rfl) (by omega) (by rw [Int.toNat_natCast]; exact List.getElem?_eq_getElem hkl)) (es_21 x3 (es_var (E := eP) (i := 3) x3 rfl (Enc.up _ (eb2.trans s3.bh) hv'))))) rfl (es_varI (i := 4) s3.bh rfl) (by rw [List.length_map]; exact hkl)
        fun H5 s5 c5 _ => ⟨_, ls.set k (ls[k] - pr.2), rfl, s5, ?_, each_off hE3 (sel_nodup _ _ _) hj hk (List.getElem?_eq_getElem hkl)⟩
      rw [List.map_set]
      exact c5
    · obtain ⟨b, ls, rfl, s3, c3, hE3⟩ := W
      subst hT
      refine ⟨_, b, B2, ls, rfl, s3, eb.trans eb2, c3, hE3.congr fun n r hr => ?_⟩
      rw [List.take_length, List.take_add_one, hi, Option.toList_some, borne_snoc]
      have hiff : ((n : Int) ∈ intoM y0 pr.1) ↔ comesIn r pr.1 = true := by
        unfold intoM
        rw [mem_sel]
        have hn := (List.getElem?_eq_some_iff.mp hr).1
        constructor
        · rintro ⟨_, _, r', h1, h2⟩
          rw [Int.toNat_natCast, hr] at h1
          cases h1
          exact h2
        · intro h
          exact ⟨by omega, by omega, r, by rw [Int.toNat_natCast]; exact hr, h⟩
      by_cases hc : comesIn r pr.1 = true
      · rw [if_pos (hiff.mpr hc), if_pos hc]
        omega
      · rw [if_neg (fun h => hc (hiff.mp h)), if_neg hc]
        omega
  · obtain ⟨a, b, B', ls, rfl, s, eb, c, hE⟩ := w
    rw [List.take_length] at hE
    have e := each_eq hE
    subst e
    refine s_ret (ev_var (v := .ref l) rfl) fun H2 e2 => ?_
    have c' := c.go e2
    exact q l _ _ B' H2 (s.goH e2) c'.n c'.b c'.h rfl (pI' _)

structure IsGroup (m root : Int) (g : List Int) : Prop where
  ne : g ≠ []
  nr : ¬ root ∈ g
  inm : ∀ v ∈ g, 0 ≤ v ∧ v < m
  up : Up g
/-- the first i are places, rising -/
def GroupTo (m : Int) (g : List Int) (i : Nat) : Prop := (∀ v ∈ g.take i, 0 ≤ v ∧ v < m) ∧ Up (g.take i)
theorem group0 (m : Int) (g : List Int) : GroupTo m g 0 := ⟨fun v h => (by rw [List.take_zero] at h; cases h), by rw [List.take_zero]; exact List.Pairwise.nil⟩
theorem take_next {α : Type} {xs : List α} {i : Nat} {x : α} (h : xs[i]? = some x) : xs.take (i + 1) = xs.take i ++ [x] := by rw [List.take_add_one, h, Option.toList_some]
theorem up_snoc {xs : List Int} {x : Int} : Up (xs ++ [x]) ↔ Up xs ∧ ∀ y ∈ xs, y < x := by
  unfold Up
  rw [List.pairwise_append]
  simp
/-- all below the next one, as the last is -/
theorem up_last {xs : List Int} {i : Nat} {x y : Int} (h : Up (xs.take (i + 1))) (hy : xs[i]? = some y) (hxy : y < x) : ∀ z ∈ xs.take (i + 1), z < x := fun z hz => by
  rw [take_next hy] at h hz
  rcases List.mem_append.mp hz with q | q
  · have := (up_snoc.mp h).2 z q
    omega
  · rw [List.mem_singleton.mp q]
    exact hxy
theorem group_next {m : Int} {g : List Int} {i : Nat} {x : Int} (h : GroupTo m g i) (hx : g[i]? = some x) (h0 : 0 ≤ x ∧ x < m) (h1 : ∀ j y, i = j + 1 → g[j]? = some y → y < x) : GroupTo m g (i + 1) := by
  rw [GroupTo, take_next hx]
  refine ⟨fun v hv => ?_, up_snoc.mpr ⟨h.2, ?_⟩⟩
  · rcases List.mem_append.mp hv with q | q
    · exact h.1 v q
    · rw [List.mem_singleton.mp q]
      exact h0
  · cases i with
    | zero => intro y hy; rw [List.take_zero] at hy; cases hy
    | succ j =>
      have hj : j < g.length := by
        have := (List.getElem?_eq_some_iff.mp hx).1
        omega
      exact up_last h.2 (List.getElem?_eq_getElem hj) (h1 j _ rfl (List.getElem?_eq_getElem hj))
theorem group_all {m : Int} {g : List Int} (h : GroupTo m g g.length) : (∀ v ∈ g, 0 ≤ v ∧ v < m) ∧ Up g := by
  rw [GroupTo, List.take_length] at h
  exact h
theorem up_lt {g : List Int} (h : Up g) {i : Nat} {x y : Int} (hx : g[i]? = some x) (hy : g[i + 1]? = some y) : x < y := by
  obtain ⟨h1, rfl⟩ := List.getElem?_eq_some_iff.mp hx
  obtain ⟨h2, rfl⟩ := List.getElem?_eq_some_iff.mp hy
  exact List.pairwise_iff_getElem.mp h i (i + 1) h1 h2 (by omega)
abbrev sp_isgroup : Sp := Spec (ar3 eI eI (eT eI)) (fun i => i.2.2.length ≤ 100) eB (fun i y => y = true ↔ IsGroup i.1 i.2.1 i.2.2)
theorem d_is_group (F0 : FunAt K mg "is_group" s_is_group) (T : Txt K mg) (G_is_place : DefOk P w K mg base 2 "is_place" ["many", "thing"] sp_place) : DefOk P w K mg base 3 "is_group" ["many", "root", "group"] sp_isgroup := by
  refine mk_def (k := 2) F0 sc_is_group (fun _ _ _ _ _ _ us hl => match us, hl with | [_, _, _], _ => rfl) (fun _ => (lenC (lenC (lenC lenN)))) ?_
  intro f cdv A0 outer s E i B H vs Q hr x0 hA hp q
  obtain ⟨v0, _, _, rfl, rfl, h0, v1, _, _, rfl, rfl, h1, v2, _, _, rfl, rfl, h2, rfl⟩ := hA
  obtain ⟨y0, y1, y2⟩ := i
  (try dsimp only at h0); (try dsimp only at h1); (try dsimp only at h2); (try dsimp only at hp); (try dsimp only at q)
  refine ⟨_, (pss_cons (ps_if (pw_or (pt_cmpR op_eq (pe_callB (k_len (K := K) rfl) (by rfl) T.b_len (by decide +kernel) (pa_cons (pv 2) pa_nil)) pe_int (nomark _)) (pw_or1 (pt_cmpR (k_in (K := K) rfl) (pv 1) (pv 2) (by rfl)))).pt (pss_one (ps_ret pe_bl)) pss_nil)
      (pss_cons (ps_for PassesOwn.never rfl (pi_range1 (by rfl) T.b_range (pa_cons (pe_callB (k_len (K := K) rfl) (by rfl) T.b_len (by decide +kernel) (pa_cons (pv 2) pa_nil)) pa_nil)) (pg_name (i := 3) sc_is_group.nd rfl (by first | exact Or.inl rfl | exact Or.inr rfl)) (pss_cons (ps_if (pt_not (pt_val (pe_callD G_is_place (hr.mono (by decide)) (by rfl) (pa_cons (pv 0) (pa_cons (pe_ix (k_ixt (K := K) rfl) (pv 2) (pv 3) (fun _ _ => rfl)) pa_nil))))) (pss_one (ps_ret pe_bl)) pss_nil)
      (pss_one (ps_if (pw_and (pt_cmpR op_gt (pv 3) pe_int (nomark _)) (pw_and1 (pt_cmpR op_le (pe_ix (k_ixt (K := K) rfl) (pv 2) (pv 3) (fun _ _ => rfl)) (pe_ix (k_ixt (K := K) rfl) (pv 2) (pe_op op_sub (pv 3) pe_int) (fun _ _ => rfl)) (nomark _)))).pt (pss_one (ps_ret pe_bl)) pss_nil))))
      (pss_one (ps_ret pe_bl)))), ?_⟩
  cases h0
  cases h1
  have hz : y2.length ≤ 100 := hp
  refine q_when (et_or (et_sT (es_eqI x0 (es_lenT x0 (es_var x0 rfl h2)) (es_int x0))) fun _ => et_sT (es_inT x0 (es_varI x0 rfl) (es_var x0 rfl h2))) (fun hb H1 e1 => ?_) (fun hb H1 e1 => ?_)
  · refine c_ret (Stp.go x0 e1) (es_bl (x0.trans e1)) fun w y B2 H2 s hy hR => q w y B2 H2 s ⟨fun h => ?_, fun h => ?_⟩ hR
    · rw [hy] at h
      cases h
    · simp only [Bool.or_eq_true, decide_eq_true_eq] at hb
      rcases hb with hb | hb
      · exact absurd (List.length_eq_zero_iff.mp (by omega)) h.ne
      · exact absurd hb h.nr
  simp only [Bool.or_eq_false_iff, decide_eq_false_iff_not] at hb
  obtain ⟨hb1, hb2⟩ := hb
  have s1 := Stp.go x0 e1
  refine q_forR (es_lenT s1.bh (es_var s1.bh rfl h2)) ⟨by omega, by omega⟩ (fun i σ' H' => ∃ a, σ' = [some (.int y0), some (.int y1), some v2, a] ∧ Stp B H B H' ∧ GroupTo y0 y2 i)
    (fun H4 e4 => ⟨none, rfl, s1.goH e4, group0 _ _⟩) (fun i σ' H' hi w => ?_) (fun σ' H' w => ?_)
  · obtain ⟨a, rfl, s, hG⟩ := w
    have x1 := s.bh
    have hi' : i < y2.length := by omega
    have hx : y2[i]? = some y2[i] := List.getElem?_eq_getElem hi'
    generalize y2[i] = x at hx
    have hix : ∀ {σ H'}, σ[3]? = some (some (V.int i)) → σ[2]? = some (some v2) → Ex B H' → EvE eI (tOp (rIxT K) (tVar 2) (tVar 3)) σ B H' x := fun h6 h7 x => es_ixT x (es_var x h7 h2) (es_varI x h6) (by omega) (by rw [Int.toNat_natCast]; exact hx)
    refine q_when (et_not (et_sB (es_call (y0, x) x1 (ea_c x1 (mono_aC mono_aN) (es_varI x1 rfl) (ea_c x1 mono_aN (hix rfl rfl x1) (ea_n x1))) True.intro))) (fun hb H5 e5 => ?_) (fun hb H5 e5 => ?_)
    · refine c_ret (s.goH e5) (es_bl (x1.trans e5)) fun w y B2 H2 s hy hR => q w y B2 H2 s ⟨fun h => (by rw [hy] at h; cases h), fun h => ?_⟩ hR
      have h3 := h.inm x (List.mem_of_getElem? hx)
      simp [h3.1, h3.2] at hb
    have hxm : 0 ≤ x ∧ x < y0 := by simpa using hb
    have x2 := x1.trans e5
    cases i with
    | zero =>
      refine s_when (b := false) (et_is (et_and (et_sT (es_opB (g := fun a b => decide (b < a)) x2 (es_varI (i := 3) x2 rfl) (es_int x2))) (b := false) fun hc => ?_) rfl) (fun hb => by cases hb) (fun _ H6 e6 => ⟨_, rfl, (s.goH e5).goH e6, group_next hG hx hxm fun j y hj => by omega⟩)
      exact absurd (of_decide_eq_true hc) (by decide)
    | succ j =>
      have hj' : j < y2.length := by omega
      have hxj : y2[j]? = some y2[j] := List.getElem?_eq_getElem hj'
      generalize y2[j] = z at hxj
      refine s_when (et_and (et_sT (es_opB (g := fun a b => decide (b < a)) x2 (es_varI (i := 3) x2 rfl) (es_int x2))) fun _ => et_sT (es_opB (g := fun a b => decide (a ≤ b)) x2 (hix rfl rfl x2) (es_ixT (x := z) x2 (es_var (i := 2) x2 rfl h2) (es_opI x2 (es_varI (i := 3) x2 rfl) (es_int x2)) (by omega) (by rw [show ((((j + 1 : Nat) : Int) - 1).toNat) = j by omega]; exact hxj)))) (fun hb H6 e6 => ?_) (fun hb H6 e6 => ⟨_, rfl, (s.goH e5).goH e6, group_next hG hx hxm fun j' y hj hy => ?_⟩)
      · refine c_ret ((s.goH e5).goH e6) (es_bl (x2.trans e6)) fun w y B2 H2 s hy hR => q w y B2 H2 s ⟨fun h => (by rw [hy] at h; cases h), fun h => ?_⟩ hR
        have h3 := up_lt h.up hxj hx
        simp only [Bool.and_eq_true, decide_eq_true_eq] at hb
        omega
      · have : j' = j := by omega
        subst this
        rw [hxj] at hy
        cases hy
        simp only [Bool.and_eq_false_iff, decide_eq_false_iff_not] at hb
        omega
  · obtain ⟨a, rfl, s, hG⟩ := w
    have hG' := group_all (show GroupTo y0 y2 y2.length by rw [Int.toNat_natCast] at hG; exact hG)
    exact c_ret s (es_bl s.bh) fun w y B2 H2 s hy hR => q w y B2 H2 s ⟨fun _ => ⟨fun h => hb1 (by rw [h]; rfl), hb2, hG'.1, hG'.2⟩, fun _ => hy⟩ hR

def bothN (a b : List Int) : Nat := (a.filter fun v => decide (v ∈ b)).length
/-- one lies within the other and is another one, or they are apart -/
def AgreeP (a b : List Int) : Prop := bothN a b = 0 ∨ ((bothN a b = a.length ∨ bothN a b = b.length) ∧ a.length ≠ b.length)
theorem both_comm {a b : List Int} (ha : Up a) (hb : Up b) : (a.filter fun v => decide (v ∈ b)) = b.filter fun v => decide (v ∈ a) := by
  refine up_ext (up_filter _ ha) (up_filter _ hb) fun v => ?_
  rw [List.mem_filter, List.mem_filter]
  simp [and_comm]
theorem bothN_comm {a b : List Int} (ha : Up a) (hb : Up b) : bothN a b = bothN b a := by
  unfold bothN
  rw [both_comm ha hb]
theorem bothN_le (a b : List Int) : bothN a b ≤ a.length := List.length_filter_le _ _
theorem bothN_le' {a b : List Int} (ha : Up a) (hb : Up b) : bothN a b ≤ b.length := by
  rw [bothN_comm ha hb]
  exact bothN_le _ _
theorem both_same {a b : List Int} (ha : Up a) (hb : Up b) (h1 : bothN a b = a.length) (h2 : a.length = b.length) : a = b := by
  have e1 : (a.filter fun v => decide (v ∈ b)) = a := List.filter_eq_self.mpr (List.length_filter_eq_length_iff.mp h1)
  have e2 : (b.filter fun v => decide (v ∈ a)) = b := List.filter_eq_self.mpr (List.length_filter_eq_length_iff.mp (by
    show bothN b a = b.length
    rw [← bothN_comm ha hb, h1, h2]))
  rw [← e1, both_comm ha hb, e2]
theorem bothN_self (a : List Int) : bothN a a = a.length := by
  unfold bothN
  rw [List.filter_eq_self.mpr fun v hv => decide_eq_true hv]
theorem agree_min {a b : List Int} (ha : Up a) (hb : Up b) : AgreeP a b ↔ (bothN a b = 0 ∨ ((bothN a b : Int) = (if (b.length : Int) < (a.length : Int) then (b.length : Int) else (a.length : Int)) ∧ (a.length : Int) ≠ (b.length : Int))) := by
  have h1 := bothN_le a b
  have h2 := bothN_le' ha hb
  unfold AgreeP
  split <;> omega
/-- the law's words -/
theorem agree_law {a b : List Int} (ha : Up a) (hb : Up b) (ha0 : a ≠ []) : AgreeP b a ↔ ¬ (a = b ∨ (0 < bothN a b ∧ bothN a b < a.length ∧ bothN a b < b.length)) := by
  have h1 := bothN_le a b
  have h2 := bothN_le' ha hb
  have hl : 0 < a.length := List.length_pos_iff.mpr ha0
  unfold AgreeP
  rw [bothN_comm hb ha]
  constructor
  · rintro h (e | h3)
    · subst e
      rw [bothN_self] at h
      omega
    · omega
  · intro h
    by_cases hz : bothN a b = 0
    · exact .inl hz
    · refine .inr ⟨?_, fun e => h (.inl ?_)⟩
      · have : ¬ (0 < bothN a b ∧ bothN a b < a.length ∧ bothN a b < b.length) := fun q => h (.inr q)
        omega
      · have h3 : ¬ (0 < bothN a b ∧ bothN a b < a.length ∧ bothN a b < b.length) := fun q => h (.inr q)
        exact both_same ha hb (by omega) e.symm
abbrev sp_agree : Sp := Spec (ar2 (eT eI) (eT eI)) (fun i => i.1.length ≤ 100 ∧ i.2.length ≤ 100 ∧ Up i.1 ∧ Up i.2) eB (fun i y => y = true ↔ AgreeP i.1 i.2)
theorem d_agree (F0 : FunAt K mg "agree" s_agree) (T : Txt K mg)  : DefOk P w K mg base 1 "agree" ["one", "other"] sp_agree := by
  refine mk_def (k := 0) F0 sc_agree (fun _ _ _ _ _ _ us hl => match us, hl with | [_, _], _ => rfl) (fun _ => (lenC (lenC lenN))) ?_
  intro f cdv A0 outer s E i B H vs Q hr x0 hA hp q
  obtain ⟨v0, _, _, rfl, rfl, h0, v1, _, _, rfl, rfl, h1, rfl⟩ := hA
  obtain ⟨y0, y1⟩ := i
  (try dsimp only at h0); (try dsimp only at h1); (try dsimp only at hp); (try dsimp only at q)
  refine ⟨_, (pss_cons (ps_setLc (i := 2) (own := [("place", 3)]) (g := gName 3) rfl sc_agree.nd rfl rfl (sw_true rfl rfl rfl (by decide +kernel)) (pi_tup (pv 0)) (blkOk_by (N := N_agree) (sc := defScope s_agree) (by decide +kernel)) (fun _ _ _ _ _ => pg_name (i := 3) sc_agree.nd rfl (Or.inl rfl)) (fun _ _ _ _ _ => (pts_one (pt_cmpR (k_in (K := K) rfl) (pv 3) (pv 1) (by rfl)))) (fun _ _ _ _ _ => (pv 3)))
      (pss_one (ps_ret (pe_or (pe_cmpR op_eq (pe_callB (k_len (K := K) rfl) (by rfl) T.b_len (by decide +kernel) (pa_cons (pv 2) pa_nil)) pe_int (nomark _)) (pe_one (pe_and (pe_cmpR op_eq (pe_callB (k_len (K := K) rfl) (by rfl) T.b_len (by decide +kernel) (pa_cons (pv 2) pa_nil)) (pe_callB (cl_min2 rfl) (by rfl) T.b_min (by decide +kernel) (pa_cons (pe_callB (k_len (K := K) rfl) (by rfl) T.b_len (by decide +kernel) (pa_cons (pv 0) pa_nil)) (pa_cons (pe_callB (k_len (K := K) rfl) (by rfl) T.b_len (by decide +kernel) (pa_cons (pv 1) pa_nil)) pa_nil))) (nomark _)) (pe_one (pe_cmpR op_ne (pe_callB (k_len (K := K) rfl) (by rfl) T.b_len (by decide +kernel) (pa_cons (pv 0) pa_nil)) (pe_callB (k_len (K := K) rfl) (by rfl) T.b_len (by decide +kernel) (pa_cons (pv 1) pa_nil)) (nomark _))))))))), ?_⟩
  obtain ⟨hz0, hz1, hu0, hu1⟩ := hp
  refine q_setS (em_lcT (E := eI) (F := eI) (p := fun v => decide (v ∈ y1)) (Tr := fun v y => y = v) x0 (es_var x0 rfl h0) (by omega) (fun v => rfl) (fun v w B2 H2 s2 _ hv => ?_) (fun v w B2 H2 s2 _ hv _ => ?_)).s fun v3 bo B1 H1 s1 hbo hv3 => ?_
  · cases hv
    exact et_sT (es_inT s2.bh (es_varI s2.bh rfl) (es_var s2.bh rfl (Enc.up _ s2.eb h1)))
  · cases hv
    exact es_varI s2.bh rfl
  have hbo := pair_fun (f := fun v => v) hbo
  rw [List.map_id'] at hbo
  replace h0 := Enc.up _ s1.eb h0
  replace h1 := Enc.up _ s1.eb h1
  have x1 := s1.bh
  have hbl : bo.length = bothN y0 y1 := by rw [hbo]; rfl
  refine c_ret s1 (es_orV (a := decide ((bo.length : Int) = 0)) x1 (es_eqI x1 (es_lenL x1 (es_var x1 rfl hv3)) (es_int x1)) fun _ => es_andV x1 (es_eqI x1 (es_lenL x1 (es_var x1 rfl hv3)) (es_min2 x1 (es_lenT x1 (es_var x1 rfl h0)) (es_lenT x1 (es_var x1 rfl h1)))) fun _ => es_neI x1 (es_lenT x1 (es_var x1 rfl h0)) (es_lenT x1 (es_var x1 rfl h1))) fun w y B2 H2 s hy hR => q w y B2 H2 s ?_ hR
  rw [hy, hbl, agree_min hu0 hu1]
  simp only [Bool.or_eq_true, Bool.and_eq_true, decide_eq_true_eq, Bool.not_eq_true', decide_eq_false_iff_not]
  constructor
  · rintro (h | h)
    · exact .inl (by omega)
    · exact .inr h
  · rintro (h | h)
    · exact .inl (by omega)
    · exact .inr h
end
end RR
namespace RR
open PySem L2 Evl PyProof.Rows
section
variable {P : Program} {w : World} {K : PySem.W.Frag} {mg : Str → Option Value} {base : Heap}

noncomputable def pd (p : Prop) : Bool := @decide p (Classical.propDecidable p)
theorem pd_true {p : Prop} : pd p = true ↔ p := by
  unfold pd
  exact @decide_eq_true_iff p (Classical.propDecidable p)
theorem pd_false {p : Prop} : pd p = false ↔ ¬ p := by
  unfold pd
  exact @decide_eq_false_iff_not p (Classical.propDecidable p)
theorem es_dec {te : TE} {σ : L2.St} {B H : Hp} {p : Prop} (h : EvS eB te σ B H (fun y => y = true ↔ p)) : EvE eB te σ B H (pd p) := h.imp fun y hy => by
  cases y with
  | true => exact (pd_true.mpr (hy.mp rfl)).symm
  | false => exact (pd_false.mpr fun q => by cases hy.mpr q).symm
structure PairsTo (m root : Int) (ps : List Price) (i : Nat) : Prop where
  one : ∀ j p, j < i → ps[j]? = some p → IsGroup m root p.1 ∧ 1 ≤ p.2
  two : ∀ j k p q, k < j → j < i → ps[j]? = some p → ps[k]? = some q → AgreeP q.1 p.1
structure IsPrices (m root : Int) (rs : List Road) (ps : List Price) : Prop where
  pairs : PairsTo m root ps ps.length
  left : ∀ r ∈ rs, borne r ps ≤ r.2.2
theorem pairs0 (m root : Int) (ps : List Price) : PairsTo m root ps 0 := ⟨fun _ _ h => absurd h (Nat.not_lt_zero _), fun _ _ _ _ _ h => absurd h (Nat.not_lt_zero _)⟩
theorem pairs_next {m root : Int} {ps : List Price} {i : Nat} {p : Price} (h : PairsTo m root ps i) (hp : ps[i]? = some p) (h1 : IsGroup m root p.1 ∧ 1 ≤ p.2) (h2 : ∀ k q, k < i → ps[k]? = some q → AgreeP q.1 p.1) : PairsTo m root ps (i + 1) :=
  ⟨fun j q hj hq => by
    by_cases e : j = i
    · subst e
      rw [hp] at hq
      cases hq
      exact h1
    · exact h.one j q (by omega) hq, fun j k q r hk hj hq hr => by
    by_cases e : j = i
    · subst e
      rw [hp] at hq
      cases hq
      exact h2 k r hk hr
    · exact h.two j k q r hk (by omega) hq hr⟩
abbrev sp_prices : Sp := Spec (ar4 eI (eL eR) eI (eL eP)) (fun i => Net i.1 i.2.1 ∧ 0 ≤ i.2.2.1 ∧ i.2.2.1 < i.1 ∧ i.2.2.2.length ≤ 100 ∧ ∀ p ∈ i.2.2.2, p.1.length ≤ 100) eB (fun i y => y = true ↔ IsPrices i.1 i.2.2.1 i.2.1 i.2.2.2)
theorem d_are_prices (F0 : FunAt K mg "are_prices" s_are_prices) (T : Txt K mg) (G_checked : DefOk P w K mg base 4 "checked" ["many", "roads"] sp_checked) (G_need_place : DefOk P w K mg base 3 "need_place" ["many", "place"] sp_need) (G_is_whole : DefOk P w K mg base 1 "is_whole" ["thing"] sp_whole) (G_is_group : DefOk P w K mg base 3 "is_group" ["many", "root", "group"] sp_isgroup) (G_agree : DefOk P w K mg base 1 "agree" ["one", "other"] sp_agree) (G_left_over : DefOk P w K mg base 2 "left_over" ["roads", "prices"] sp_left) : DefOk P w K mg base 5 "are_prices" ["many", "roads", "root", "prices"] sp_prices := by
  refine mk_def (k := 4) F0 sc_are_prices (fun _ _ _ _ _ _ us hl => match us, hl with | [_, _, _, _], _ => rfl) (fun _ => (lenC (lenC (lenC (lenC lenN))))) ?_
  intro f cdv A0 outer s E i B H vs Q hr x0 hA hp q
  obtain ⟨v0, _, _, rfl, rfl, h0, v1, _, _, rfl, rfl, h1, v2, _, _, rfl, rfl, h2, v3, _, _, rfl, rfl, h3, rfl⟩ := hA
  obtain ⟨y0, y1, y2, y3⟩ := i
  (try dsimp only at h0); (try dsimp only at h1); (try dsimp only at h2); (try dsimp only at h3); (try dsimp only at hp); (try dsimp only at q)
  refine ⟨_, (pss_cons (ps_expr (pe_callD G_checked (hr.mono (by decide)) (by rfl) (pa_cons (pv 0) (pa_cons (pv 1) pa_nil))))
      (pss_cons (ps_expr (pe_callD G_need_place (hr.mono (by decide)) (by rfl) (pa_cons (pv 0) (pa_cons (pv 2) pa_nil))))
      (pss_cons (ps_for PassesOwn.never rfl (pi_range1 (by rfl) T.b_range (pa_cons (pe_callB (k_len (K := K) rfl) (by rfl) T.b_len (by decide +kernel) (pa_cons (pv 3) pa_nil)) pa_nil)) (pg_name (i := 4) sc_are_prices.nd rfl (by first | exact Or.inl rfl | exact Or.inr rfl)) (pss_cons (ps_set (i := 5) sc_are_prices.nd rfl (by first | exact Or.inl rfl | exact Or.inr rfl) (pe_ix (k_ixt (K := K) rfl) (pe_ix (k_ixl (K := K) rfl) (pv 3) (pv 4) (fun _ _ => rfl)) pe_int (fun _ _ => rfl)))
      (pss_cons (ps_if (pw_or (pt_not (pt_val (pe_callD G_is_group (hr.mono (by decide)) (by rfl) (pa_cons (pv 0) (pa_cons (pv 2) (pa_cons (pv 5) pa_nil)))))) (pw_or (pt_not (pt_val (pe_callD G_is_whole (hr.mono (by decide)) (by rfl) (pa_cons (pe_ix (k_ixt (K := K) rfl) (pe_ix (k_ixl (K := K) rfl) (pv 3) (pv 4) (fun _ _ => rfl)) pe_int (fun _ _ => rfl)) pa_nil)))) (pw_or1 (pt_cmpR op_lt (pe_ix (k_ixt (K := K) rfl) (pe_ix (k_ixl (K := K) rfl) (pv 3) (pv 4) (fun _ _ => rfl)) pe_int (fun _ _ => rfl)) pe_int (nomark _))))).pt (pss_one (ps_ret pe_bl)) pss_nil)
      (pss_one (ps_for PassesOwn.never rfl (pi_list (pe_slice (k_sll (K := K) rfl) (pv 3) po_none (po_some (pv 4)))) (pg_name (i := 6) sc_are_prices.nd rfl (by first | exact Or.inl rfl | exact Or.inr rfl)) (pss_one (ps_if (pt_not (pt_val (pe_callD G_agree (hr.mono (by decide)) (by rfl) (pa_cons (pe_ix (k_ixt (K := K) rfl) (pv 6) pe_int (fun _ _ => rfl)) (pa_cons (pv 5) pa_nil))))) (pss_one (ps_ret pe_bl)) pss_nil)))))))
      (pss_cons (ps_for PassesOwn.never rfl (pi_list (pe_callD G_left_over (hr.mono (by decide)) (by rfl) (pa_cons (pv 1) (pa_cons (pv 3) pa_nil)))) (pg_name (i := 7) sc_are_prices.nd rfl (by first | exact Or.inl rfl | exact Or.inr rfl)) (pss_one (ps_if (pt_cmpR op_lt (pv 7) pe_int (nomark _)) (pss_one (ps_ret pe_bl)) pss_nil)))
      (pss_one (ps_ret pe_bl)))))), ?_⟩
  cases h0
  cases h2
  obtain ⟨hn, hr0, hr1, hz, hgz⟩ := hp
  refine q_dropS (es_call (y0, y1) x0 (ea_c x0 (mono_aC mono_aN) (es_varI x0 rfl) (ea_c x0 mono_aN (es_var x0 rfl h1) (ea_n x0))) hn) fun v x B1 H1 s1 _ _ => ?_
  have x1 := s1.bh
  refine q_dropS (es_call (y0, y2) x1 (ea_c x1 (mono_aC mono_aN) (es_varI x1 rfl) (ea_c x1 mono_aN (es_varI x1 rfl) (ea_n x1))) ⟨hr0, hr1⟩) fun v x B2 H2 s2 _ _ => ?_
  replace s2 := s1.trans s2
  replace h1 := Enc.up _ s2.eb h1
  replace h3 := Enc.up _ s2.eb h3
  have x2 := s2.bh
  clear s1 x1
  have no : ∀ {σ : L2.St} {B' H' : Hp} {D : Ends}, Stp B H B' H' → D.rt = Q → ¬ IsPrices y0 y2 y1 y3 → tRet (tC (.bl false)) D σ H' := fun s e h => c_ret s (es_bl s.bh) fun w y B2 H2 s hy hR => by
    rw [e]
    exact q w y B2 H2 s ⟨fun h => (by rw [hy] at h; cases h), fun z => absurd z h⟩ hR
  refine q_forR (es_lenL x2 (es_var x2 rfl h3)) ⟨by omega, by omega⟩ (fun i σ' H' => ∃ a b c B', σ' = [some (.int y0), some v1, some (.int y2), some v3, a, b, c, none] ∧ Stp B H B' H' ∧ Ex B2 B' ∧ PairsTo y0 y2 y3 i)
    (fun H4 e4 => ⟨none, none, none, B2, rfl, s2.goH e4, Ex.refl _, pairs0 _ _ _⟩) (fun i σ' H' hi w => ?_) (fun σ' H' w => ?_)
  · obtain ⟨a, b, c, B', rfl, s, eb, hP⟩ := w
    have hi' : i < y3.length := by omega
    have hx : y3[i]? = some y3[i] := List.getElem?_eq_getElem hi'
    generalize y3[i] = pr at hx
    have hprl := hgz pr (List.mem_of_getElem? hx)
    have x3 := s.bh
    have hix : ∀ {σ B'' H'}, σ[4]? = some (some (V.int i)) → σ[3]? = some (some v3) → Ex B2 B'' → Ex B'' H' → EvE eP (tOp (rIxL K) (tVar 3) (tVar 4)) σ B'' H' pr := fun h6 h7 eb x => es_ixL x (es_var x h7 (Enc.up _ eb h3)) (es_varI x h6) (by omega) (by rw [Int.toNat_natCast]; exact hx)
    refine q_setS (E := eT eI) (i := 5) (es_20 x3 (hix rfl rfl eb x3)) fun vg g B3 H3 s3 hg hvg => ?_
    cases hg
    replace s := s.trans s3
    replace eb := eb.trans s3.eb
    clear x3 s3
    have x3 := s.bh
    refine q_when (et_or (et_not (et_sB (es_dec (es_call (y0, y2, pr.1) x3 (ea_c x3 (mono_aC (mono_aC mono_aN)) (es_varI x3 rfl) (ea_c x3 (mono_aC mono_aN) (es_varI x3 rfl) (ea_c x3 mono_aN (es_var (E := eT eI) (i := 5) x3 rfl hvg) (ea_n x3)))) hprl)))) fun _ => et_or (et_not (et_sB (es_call pr.2 x3 (ea_c x3 mono_aN (es_21 x3 (hix rfl rfl eb x3)) (ea_n x3)) True.intro))) fun _ => et_sT (es_opB x3 (es_21 x3 (hix rfl rfl eb x3)) (es_int x3))) (fun hb H5 e5 => ?_) (fun hb H5 e5 => ?_)
    · refine no (s.goH e5) rfl fun hI => ?_
      obtain ⟨k1, k2⟩ := hI.pairs.one i pr hi' hx
      have k3 := pd_true.mpr k1
      dsimp only at hb
      rw [k3, decide_eq_false (show ¬ pr.2 < 1 by omega)] at hb
      cases hb
    have hok : IsGroup y0 y2 pr.1 ∧ 1 ≤ pr.2 := by
      dsimp only at hb
      simp only [Bool.or_eq_false_iff, Bool.not_eq_false', decide_eq_false_iff_not] at hb
      exact ⟨pd_true.mp hb.1, by omega⟩
    replace s := s.goH e5
    clear x3
    have x3 := s.bh
    refine c_forL (E := eP) (T := fun ys => ys = y3.take i) ((em_slL x3 (es_var (i := 3) x3 rfl (Enc.up _ eb h3)) eo_none (eo_some' (es_varI (i := 4) x3 rfl))).s.imp fun y hy => by rw [hy, cutP_to y3 (by omega) (by omega), Int.toNat_natCast])
      (fun xs B1 j σ' H' => ∃ c B', σ' = [some (.int y0), some v1, some (.int y2), some v3, some (.int i), some vg, c, none] ∧ Stp B H B' H' ∧ Ex B1 B' ∧ ∀ k q, k < j → xs[k]? = some q → AgreeP q.1 pr.1)
      (fun xs B1 H1 s4 hT => ⟨_, B1, rfl, s.trans s4, Ex.refl _, fun _ _ h => absurd h (Nat.not_lt_zero _)⟩) (fun xs B1 j σ' H' ⟨_, _, _, s, eb, _⟩ => eb.trans s.bh) (fun xs B1 j qr v σ' H' hT eb1 hj hv W => ?_) (fun xs B1 σ' H' hT eb1 W => ?_)
    · obtain ⟨c, B', rfl, s5, eb5, hA⟩ := W
      subst hT
      have x5 := s5.bh
      have hv' := Enc.up _ eb5 hv
      have hjl : j < i := by
        have := (List.getElem?_eq_some_iff.mp hj).1
        rw [List.length_take] at this
        omega
      have hj3 : y3[j]? = some qr := by
        rw [List.getElem?_take_of_lt hjl] at hj
        exact hj
      have hq := hP.one j qr hjl hj3
      refine s_when (et_not (et_sB (es_dec (es_call (qr.1, pr.1) x5 (ea_c x5 (mono_aC mono_aN) (es_20 (t := qr) x5 (es_var (E := eP) (i := 6) x5 rfl hv')) (ea_c x5 mono_aN (es_var (E := eT eI) (i := 5) x5 rfl (Enc.up _ (eb1.trans eb5) hvg)) (ea_n x5))) ⟨hgz qr (List.mem_of_getElem? hj3), hprl, hq.1.up, hok.1.up⟩)))) (fun hb H6 e6 => ?_) (fun hb H6 e6 => ⟨_, B', rfl, s5.goH e6, eb5, fun k q' hk hkq => ?_⟩)
      · refine no (s5.goH e6) rfl fun hI => ?_
        have := hI.pairs.two i j pr qr hjl hi' hx hj3
        rw [pd_true.mpr this] at hb
        cases hb
      · by_cases e : k = j
        · subst e
          rw [hj] at hkq
          cases hkq
          simp only [Bool.not_eq_false'] at hb
          exact pd_true.mp hb
        · exact hA k q' (by omega) hkq
    · obtain ⟨c, B', rfl, s5, eb5, hA⟩ := W
      subst hT
      refine ⟨_, _, c, B', rfl, s5, eb.trans (eb1.trans eb5), pairs_next hP hx hok fun k q' hk hkq => ?_⟩
      refine hA k q' (by rw [List.length_take]; omega) ?_
      rw [List.getElem?_take_of_lt hk]
      exact hkq
  obtain ⟨a, b, c, B3, rfl, s, eb, hP⟩ := w
  have hP : PairsTo y0 y2 y3 y3.length := by rw [Int.toNat_natCast] at hP; exact hP
  replace h1 := Enc.up _ eb h1
  replace h3 := Enc.up _ eb h3
  have x3 := s.bh
  have hl60 := hn.len
  refine q_forL (E := eI) (T := fun ys => ys = leftM y1 y3) (em_call (y1, y3) x3 (ea_c x3 (mono_aC mono_aN) (es_var x3 rfl h1) (ea_c x3 mono_aN (es_var x3 rfl h3) (ea_n x3))) ⟨by show y1.length ≤ 100; omega, hz⟩).s
    (fun xs B1 j σ' H' => ∃ d, σ' = [some (.int y0), some v1, some (.int y2), some v3, a, b, c, d] ∧ Stp B H B1 H' ∧ ∀ k z, k < j → xs[k]? = some z → 0 ≤ z)
    (fun xs B1 H1 s4 hT => ⟨_, rfl, s.trans s4, fun _ _ h => absurd h (Nat.not_lt_zero _)⟩) (fun xs B1 j σ' H' ⟨_, _, s, _⟩ => s.bh) (fun xs B1 j z v σ' H' hT eb1 hj hv W => ?_) (fun xs B1 σ' H' hT eb1 W => ?_)
  · obtain ⟨d, rfl, s5, hA⟩ := W
    subst hT
    cases hv
    have x5 := s5.bh
    refine s_when (et_sT (es_opB x5 (es_varI (i := 7) x5 rfl) (es_int x5))) (fun hb H6 e6 => ?_) (fun hb H6 e6 => ⟨_, rfl, s5.goH e6, fun k z' hk hkz => ?_⟩)
    · refine no (s5.goH e6) rfl fun hI => ?_
      have hb := of_decide_eq_true hb
      unfold leftM at hj
      rw [List.getElem?_map] at hj
      cases hr : y1[j]? with
      | none =>
        rw [hr] at hj
        cases hj
      | some r =>
        rw [hr] at hj
        have hj : r.2.2 - borne r y3 = z := Option.some.inj hj
        have := hI.left r (List.mem_of_getElem? hr)
        omega
    · by_cases e : k = j
      · subst e
        rw [hj] at hkz
        cases hkz
        have := of_decide_eq_false hb
        omega
      · exact hA k z' (by omega) hkz
  · obtain ⟨d, rfl, s5, hA⟩ := W
    subst hT
    refine c_ret s5 (es_bl s5.bh) fun w y B2 H2 s hy hR => q w y B2 H2 s ⟨fun _ => ⟨hP, fun r hr => ?_⟩, fun _ => hy⟩ hR
    obtain ⟨k, hk⟩ := List.mem_iff_getElem?.mp hr
    have := hA k (r.2.2 - borne r y3) (by unfold leftM; rw [List.length_map]; exact (List.getElem?_eq_some_iff.mp hk).1) (by unfold leftM; rw [List.getElem?_map, hk]; rfl)
    omega
end
end RR
namespace RR
open PySem L2 Evl PyProof.Rows
section
variable {P : Program} {w : World} {K : PySem.W.Frag} {mg : Str → Option Value} {base : Heap}

abbrev sp_borne : Sp := Spec (ar3 eI eI (eL eP)) (fun i => i.2.2.length ≤ 100) eI (fun i y => y = borne (i.1, i.2.1, 0) i.2.2)
theorem sum_filter (r : Road) : ∀ ps : List Price, ((ps.filter fun p => comesIn r p.1).map (·.2)).sum = borne r ps
  | [] => rfl
  | p :: ps => by
    have ih := sum_filter r ps
    show _ = ((p :: ps).map fun p => if comesIn r p.1 then p.2 else 0).sum
    rw [List.map_cons, List.sum_cons, List.filter_cons]
    cases h : comesIn r p.1 with
    | true =>
      rw [if_pos rfl, if_pos rfl, List.map_cons, List.sum_cons, ih]
      rfl
    | false =>
      rw [if_neg Bool.false_ne_true, if_neg Bool.false_ne_true, ih]
      show borne r ps = 0 + borne r ps
      omega
theorem d__law_borne (F0 : FunAt K mg "_law_borne" s__law_borne) (T : Txt K mg)  : DefOk P w K mg base 1 "_law_borne" ["_law_start", "_law_end", "_law_prices"] sp_borne := by
  refine mk_def (k := 0) F0 sc__law_borne (fun _ _ _ _ _ _ us hl => match us, hl with | [_, _, _], _ => rfl) (fun _ => (lenC (lenC (lenC lenN)))) ?_
  intro f cdv A0 outer s E i B H vs Q hr x0 hA hp q
  obtain ⟨v0, _, _, rfl, rfl, h0, v1, _, _, rfl, rfl, h1, v2, _, _, rfl, rfl, h2, rfl⟩ := hA
  obtain ⟨y0, y1, y2⟩ := i
  (try dsimp only at h0); (try dsimp only at h1); (try dsimp only at h2); (try dsimp only at hp); (try dsimp only at q)
  refine ⟨_, (pss_one (ps_ret (pe_callB (k_sum rfl (K := K) rfl) (by rfl) T.b_sum (by decide +kernel) (pa_cons (pe_lc (own := [("_law_pair", 3)]) (g := gName 3) rfl sc__law_borne.nd (pi_list (pv 2)) (blkOk_by (N := N__law_borne) (sc := defScope s__law_borne) (by decide +kernel)) (fun _ _ _ _ _ => pg_name (i := 3) sc__law_borne.nd rfl (Or.inl rfl)) (fun _ _ _ _ _ => (pts_one (pw_and (pt_cmpR (k_in (K := K) rfl) (pv 1) (pe_ix (k_ixt (K := K) rfl) (pv 3) pe_int (fun _ _ => rfl)) (by rfl)) (pw_and1 (pt_cmpR (k_notin (K := K) rfl) (pv 0) (pe_ix (k_ixt (K := K) rfl) (pv 3) pe_int (fun _ _ => rfl)) (by rfl)))).pt)) (fun _ _ _ _ _ => (pe_ix (k_ixt (K := K) rfl) (pv 3) pe_int (fun _ _ => rfl)))) pa_nil)))), ?_⟩
  cases h0
  cases h1
  have hz : y2.length ≤ 100 := hp
  refine c_ret (Stp.refl x0) (es_sumS x0 (em_lcL (E := eP) (F := eI) (p := fun pr => comesIn (y0, y1, 0) pr.1) (Tr := fun pr y => y = pr.2) x0 (es_var x0 rfl h2) (by omega) (fun v => rfl) (fun pr v B2 H2 s2 _ hv => ?_) (fun pr v B2 H2 s2 _ hv _ => es_21 s2.bh (es_var (E := eP) s2.bh rfl hv))).s) fun w y B2 H2 s hy hR => q w y B2 H2 s ?_ hR
  · exact et_and (et_sT (es_inT s2.bh (es_varI s2.bh rfl) (es_20 s2.bh (es_var (E := eP) s2.bh rfl hv)))) fun _ => et_sT (es_ninT s2.bh (es_varI s2.bh rfl) (es_20 s2.bh (es_var (E := eP) s2.bh rfl hv)))
  · obtain ⟨ns, h3, h4⟩ := hy
    have h5 := pair_fun (f := fun pr : Price => pr.2) h3
    rw [h4, h5]
    exact sum_filter _ _

abbrev sp_price : Sp := Spec (ar1 eI) (fun i => Bd i) eI (fun _ y => 1 ≤ y)
theorem d__law_price (F0 : FunAt K mg "_law_price" s__law_price) (T : Txt K mg)  : DefOk P w K mg base 1 "_law_price" ["_law_cell"] sp_price := by
  refine mk_def (k := 0) F0 sc__law_price (fun _ _ _ _ _ _ us hl => match us, hl with | [_], _ => rfl) (fun _ => (lenC lenN)) ?_
  intro f cdv A0 outer s E i B H vs Q hr x0 hA hp q
  obtain ⟨v0, y0, _, rfl, rfl, h0, rfl⟩ := hA
  refine ⟨_, (pss_cons (ps_if (pt_cmpR op_eq (pe_op op_mod (pv 0) pe_int) pe_int (nomark _)) (pss_one (ps_ret (pe_op op_add pe_int (pe_op op_mod (pe_op op_mulX (pe_op op_fdiv (pv 0) pe_int) (pe_op op_pow pe_int pe_int)) (pe_op op_pow pe_int pe_int))))) pss_nil)
      (pss_one (ps_ret (pe_op op_add pe_int (pe_op op_mod (pe_op op_fdiv (pv 0) pe_int) pe_int))))), ?_⟩
  cases h0
  refine q_when (et_sT (es_eqI x0 (es_opC x0 (es_varI x0 rfl) (es_int x0) (by first | (show (0 : Int) < _; omega) | (show (0 : Int) < _; decide +kernel))) (es_int x0))) (fun hb H1 e => ?_) (fun hb H1 e => ?_)
  · refine c_ret (Stp.go x0 e) (es_opI (x0.trans e) (es_int (x0.trans e)) (es_opC (x0.trans e) (es_opC (x0.trans e) (es_opC (x0.trans e) (es_varI (x0.trans e) rfl) (es_int (x0.trans e)) (⟨by omega, by omega⟩)) (es_opC (x0.trans e) (es_int (x0.trans e)) (es_int (x0.trans e)) (⟨by decide, by decide, by decide⟩)) (Bd.mul (Bd.div hp (by omega)) (by decide +kernel))) (es_opC (x0.trans e) (es_int (x0.trans e)) (es_int (x0.trans e)) (⟨by decide, by decide, by decide⟩)) (by first | (show (0 : Int) < _; omega) | (show (0 : Int) < _; decide +kernel)))) fun w y B2 H2 s hy hR => q w y B2 H2 s ?_ hR
    have := Int.emod_nonneg (y0 / 4 * 69621 ^ (7 : Int).toNat) (show (10 ^ (30 : Int).toNat : Int) ≠ 0 by decide +kernel)
    rw [hy]
    omega
  · refine c_ret (Stp.go x0 e) (es_opI (x0.trans e) (es_int (x0.trans e)) (es_opC (x0.trans e) (es_opC (x0.trans e) (es_varI (x0.trans e) rfl) (es_int (x0.trans e)) (⟨by omega, by omega⟩)) (es_int (x0.trans e)) (by first | (show (0 : Int) < _; omega) | (show (0 : Int) < _; decide +kernel)))) fun w y B2 H2 s hy hR => q w y B2 H2 s ?_ hR
    rw [hy]
    omega

def OkP (ps : List Price) : Prop := ∀ p ∈ ps, p.1 ≠ [] ∧ p.1.length ≤ 12 ∧ 1 ≤ p.2
def OkS (m : Int) (ss : List (Int × Int)) : Prop := ∀ s ∈ ss, 1 ≤ s.1 ∧ s.1 < s.2 ∧ s.2 ≤ m
abbrev sp_pairs (K : PySem.W.Frag) : Sp := Spec (ar3 (eScr K) eI eI) (fun i => (∀ n ∈ i.1, Bd n) ∧ 2 ≤ i.2.1 ∧ i.2.1 ≤ 12) (eL eP) (fun i ps => ps.length ≤ 9 ∧ OkP ps)
theorem d__law_pairs (F0 : FunAt K mg "_law_pairs" s__law_pairs) (T : Txt K mg) (G__law_cell_at : DefOk P w K mg base 1 "_law_cell_at" ["_law_script", "_law_k"] (sp_cell K)) (G__law_mixed : DefOk P w K mg base 1 "_law_mixed" ["_law_cell", "_law_k"] sp_mixed) (G__law_price : DefOk P w K mg base 1 "_law_price" ["_law_cell"] sp_price) : DefOk P w K mg base 2 "_law_pairs" ["_law_script", "_law_many", "_law_root"] (sp_pairs K) := by
  refine mk_def (k := 1) F0 sc__law_pairs (fun _ _ _ _ _ _ us hl => match us, hl with | [_, _, _], _ => rfl) (fun _ => (lenC (lenC (lenC lenN)))) ?_
  intro f cdv A0 outer s E i B H vs Q hr x0 hA hp q
  obtain ⟨v0, _, _, rfl, rfl, h0, v1, _, _, rfl, rfl, h1, v2, _, _, rfl, rfl, h2, rfl⟩ := hA
  obtain ⟨y0, y1, y2⟩ := i
  (try dsimp only at h0); (try dsimp only at h1); (try dsimp only at h2); (try dsimp only at hp); (try dsimp only at q)
  refine ⟨_, (pss_cons (ps_set (i := 3) sc__law_pairs.nd rfl (by first | exact Or.inl rfl | exact Or.inr rfl) (pe_lst pa_nil))
      (pss_cons (ps_set (i := 4) sc__law_pairs.nd rfl (by first | exact Or.inl rfl | exact Or.inr rfl) (pe_lst (pa_cons (pe_tup (pa_cons pe_int (pa_cons (pv 1) pa_nil))) pa_nil)))
      (pss_cons (ps_for PassesOwn.never rfl (pi_list (pe_slice (k_sll (K := K) rfl) (pv 0) (po_some pe_int) (po_some (pe_op op_add pe_int (pe_op op_mod (pe_callD G__law_cell_at (hr.mono (by decide)) (by rfl) (pa_cons (pv 0) (pa_cons pe_int pa_nil))) pe_int))))) (pg_name (i := 5) sc__law_pairs.nd rfl (by first | exact Or.inl rfl | exact Or.inr rfl)) (pss_cons (ps_if (pt_cmpR (k_eqD hr.units (K := K) rfl) (pv 4) (pe_lst pa_nil) (nomark _)) (pss_one (ps_ret (pv 3))) pss_nil)
      (pss_cons (ps_set (i := 6) sc__law_pairs.nd rfl (by first | exact Or.inl rfl | exact Or.inr rfl) (pe_bm PySem.F.plainAttrs_list PySem.F.slot_list_pop PySem.F.type_list_pop mt_popAt (pv 4) (pa_cons (pe_op op_mod (pv 5) (pe_callB (k_len (K := K) rfl) (by rfl) T.b_len (by decide +kernel) (pa_cons (pv 4) pa_nil))) pa_nil)))
      (pss_cons (ps_set (i := 7) sc__law_pairs.nd rfl (by first | exact Or.inl rfl | exact Or.inr rfl) (pe_callTy (k_tuple (K := K) rfl) (by rfl) T.b_tuple (by decide +kernel) (pa_cons (pe_callB (k_sortI (K := K) rfl) (by rfl) T.b_sorted (by decide +kernel) (pa_cons (pe_lc (own := [("_law_k", 10)]) (g := gName 10) rfl sc__law_pairs.nd (pi_range2 (by rfl) T.b_range (pa_cons (pe_ix (k_ixt (K := K) rfl) (pv 6) pe_int (fun _ _ => rfl)) (pa_cons (pe_ix (k_ixt (K := K) rfl) (pv 6) pe_int (fun _ _ => rfl)) pa_nil))) (blkOk_by (N := N__law_pairs) (sc := defScope s__law_pairs) (by decide +kernel)) (fun _ _ _ _ _ => pg_name (i := 10) sc__law_pairs.nd rfl (Or.inl rfl)) (fun _ _ _ _ _ => pts_nil) (fun _ _ _ _ _ => (pe_op op_mod (pe_op op_add (pv 2) (pv 10)) (pv 1)))) pa_nil)) pa_nil)))
      (pss_cons (ps_expr (pe_bm PySem.F.plainAttrs_list PySem.F.slot_list_append PySem.F.type_list_append mt_append (pv 3) (pa_cons (pe_tup (pa_cons (pv 7) (pa_cons (pe_callD G__law_price (hr.mono (by decide)) (by rfl) (pa_cons (pe_op op_fdiv (pv 5) pe_int) pa_nil)) pa_nil))) pa_nil)))
      (pss_cons (ps_set (i := 8) sc__law_pairs.nd rfl (by first | exact Or.inl rfl | exact Or.inr rfl) (pe_op op_add (pe_op op_add (pe_ix (k_ixt (K := K) rfl) (pv 6) pe_int (fun _ _ => rfl)) pe_int) (pe_op op_mod (pe_callD G__law_mixed (hr.mono (by decide)) (by rfl) (pa_cons (pv 5) (pa_cons pe_int pa_nil))) (pe_callB (cl_max2 rfl) (by rfl) T.b_max (by decide +kernel) (pa_cons pe_int (pa_cons (pe_op op_sub (pe_op op_sub (pe_ix (k_ixt (K := K) rfl) (pv 6) pe_int (fun _ _ => rfl)) (pe_ix (k_ixt (K := K) rfl) (pv 6) pe_int (fun _ _ => rfl))) pe_int) pa_nil))))))
      (pss_one (ps_for PassesOwn.never rfl (pi_list (pe_lst (pa_cons (pe_tup (pa_cons (pe_ix (k_ixt (K := K) rfl) (pv 6) pe_int (fun _ _ => rfl)) (pa_cons (pv 8) pa_nil))) (pa_cons (pe_tup (pa_cons (pv 8) (pa_cons (pe_ix (k_ixt (K := K) rfl) (pv 6) pe_int (fun _ _ => rfl)) pa_nil))) pa_nil)))) (pg_name (i := 9) sc__law_pairs.nd rfl (by first | exact Or.inl rfl | exact Or.inr rfl)) (pss_one (ps_if (pw_or (pt_chain op_lt op_lt (pe_ix (k_ixt (K := K) rfl) (pv 9) pe_int (fun _ _ => rfl)) (pe_ix (k_ixt (K := K) rfl) (pv 9) pe_int (fun _ _ => rfl)) (pe_ix (k_ixt (K := K) rfl) (pv 6) pe_int (fun _ _ => rfl))) (pw_or1 (pt_chain op_lt op_lt (pe_ix (k_ixt (K := K) rfl) (pv 6) pe_int (fun _ _ => rfl)) (pe_ix (k_ixt (K := K) rfl) (pv 9) pe_int (fun _ _ => rfl)) (pe_ix (k_ixt (K := K) rfl) (pv 9) pe_int (fun _ _ => rfl))))).pt (pss_one (ps_expr (pe_bm PySem.F.plainAttrs_list PySem.F.slot_list_append PySem.F.type_list_append mt_append (pv 4) (pa_cons (pv 9) pa_nil)))) pss_nil))))))))))
      (pss_one (ps_ret (pv 3)))))), ?_⟩
  cases h1
  cases h2
  obtain ⟨hbd, hm, hm2⟩ := hp
  refine q_setM (i := 3) (em_nil (E := eP) x0) fun lf vs xs B1 H1 s1 nl bl hl hx hR => ?_
  cases hx
  cases hR
  have cf : Cell H B1 H1 lf (.lst []) := ⟨nl, bl, hl⟩
  have x1 := s1.bh
  refine q_setM (i := 4) (em_lst (E := e2 eI eI) (ea_cons' x1 (x := ((1 : Int), y1)) ((es_tup2 x1 (es_int x1) (es_varI x1 rfl)).imp fun z hz => Prod.ext hz.1 hz.2) (ea_nil' x1)) (by show 1 ≤ 100000; decide)) fun ls vs xs B2 H2 s2 nl2 bl2 hl2 hx hRs => ?_
  cases hx
  have hne : lf ≠ ls := cf.neN nl2
  have cs : Cell H B2 H2 ls (.lst vs) := ⟨fresh_back s1.eh nl2, bl2, hl2⟩
  replace cf := cf.up s2
  replace s1 := s1.trans s2
  replace h0 := Enc.up _ s1.eb h0
  clear x1
  have x1 := s1.bh
  have hq0 := Int.emod_nonneg (cellM y0 2) (show (10 : Int) ≠ 0 by decide)
  have hq1 := Int.emod_lt_of_pos (cellM y0 2) (show (0 : Int) < 10 by decide)
  have hcl : (cutP y0 (some 6) (some (6 + cellM y0 2 % 10))).length ≤ 9 := Nat.le_trans (cutP_seg y0 (by decide) (by omega)) (by omega)
  refine q_forL (E := eI) (T := fun ns => ns = cutP y0 (some 6) (some (6 + cellM y0 2 % 10))) (em_slS x1 (es_var x1 rfl h0) (eo_some' (es_int x1)) (eo_some' (es_opI x1 (es_int x1) (es_opC x1 (es_call ((y0, 2)) x1 (ea_c x1 (mono_aC mono_aN) (es_var x1 rfl h0) (ea_c x1 mono_aN (es_int x1) (ea_n x1))) (by show (0 : Int) ≤ _; omega)) (es_int x1) (by first | (show (0 : Int) < _; omega) | (show (0 : Int) < _; decide +kernel)))))).s
    (fun ns B3 i σ' H' => ∃ a b c d e B' fs ss fps sps, σ' = [some v0, some (.int y1), some (.int y2), some (.ref lf), some (.ref ls), a, b, c, d, e, none] ∧ Stp B H B' H' ∧ Ex B3 B' ∧ Cell H B' H' lf (.lst fs) ∧ Cell H B' H' ls (.lst ss) ∧ Paired (eP.R B') fs fps ∧ Paired ((e2 eI eI).R B') ss sps ∧ OkP fps ∧ OkS y1 sps ∧ fps.length ≤ i ∧ sps.length ≤ 1 + 2 * i)
    (fun ns B3 H3 s3 hT => ⟨none, none, none, none, none, B3, _, _, _, _, rfl, s1.trans s3, Ex.refl _, cf.up s3, cs.up s3, .nil, Enc.ups _ s3.eb hRs, fun p hp => absurd hp (by simp), fun s hs => ?_, Nat.le_refl _, Nat.le_refl _⟩)
    (fun ns B3 i σ' H' ⟨_, _, _, _, _, _, _, _, _, _, _, s, eb, _⟩ => eb.trans s.bh) (fun ns B3 i n v σ' H' hT eb3 hi hv w => ?_) (fun ns B3 σ' H' hT eb3 w => ?_)
  · rw [List.mem_singleton.mp hs]
    exact ⟨Int.le_refl _, by show (1 : Int) < y1; omega, Int.le_refl _⟩
  · obtain ⟨a, b, c, d, e, B', fs, ss, fps, sps, rfl, s4, eb, cf4, cs4, hRf, hRs4, hokf, hoks, hlf, hls⟩ := w
    cases hv
    subst hT
    have hi9 : i < 9 := by
      have := (List.getElem?_eq_some_iff.mp hi).1
      omega
    have hnb := hbd n (cutP_mem (List.mem_of_getElem? hi))
    have xH := Ex.refl H'
    refine q_when (et_sT (es_eqNil (de2 deI deI) (by decide) xH (es_var xH rfl (cell_L cs4 (Enc.ups _ s4.bh hRs4))))) (fun hb H5 e5 => ?_) (fun hb H5 e5 => ?_)
    · obtain ⟨Bp, tp, ebp, hL, _⟩ := cell_pub (E := eP) (cf4.go e5) (s4.goH e5) hRf
      exact c_ret tp (es_var (E := eL eP) (i := 3) tp.bh rfl hL) fun w y B3 H3 s hy hR => q w y B3 H3 s (by rw [hy]; exact ⟨by omega, hokf⟩) hR
    have hlen : 0 < sps.length := by
      cases sps with
      | nil => cases hb
      | cons z zs => exact Nat.succ_pos _
    have hj0 := Int.emod_nonneg n (show (sps.length : Int) ≠ 0 by omega)
    have hj1 := Int.emod_lt_of_pos n (show (0 : Int) < (sps.length : Int) by omega)
    have hjl : (n % (sps.length : Int)).toNat < sps.length := by omega
    have hxj := List.getElem?_eq_getElem hjl
    generalize sps[(n % (sps.length : Int)).toNat] = one at hxj
    obtain ⟨vo, hvo, hRo⟩ := pget hRs4 hxj
    have hone := hoks one (List.mem_of_getElem? hxj)
    have x5 := Ex.refl H5
    refine q_popAt (i := 4) (r := 6) (cs4.go e5) (s4.goH e5) rfl (es_opC x5 (es_varI (i := 5) x5 rfl) (es_lenL x5 (es_var x5 rfl (cell_L (cs4.go e5) (Enc.ups _ (s4.goH e5).bh hRs4)))) (by show (0 : Int) < _; omega)) hj0 (by omega) hvo fun H6 s6 cs6 oth6 => ?_
    have cf6 := oth6 lf _ hne (cf4.go e5)
    have hRs6 : Paired ((e2 eI eI).R B') (ss.eraseIdx (n % (sps.length : Int)).toNat) (sps.eraseIdx (n % (sps.length : Int)).toNat) := perase _ hRs4
    have hoks6 : OkS y1 (sps.eraseIdx (n % (sps.length : Int)).toNat) := fun s hs => hoks s (List.mem_of_mem_eraseIdx hs)
    have hls6 : (sps.eraseIdx (n % (sps.length : Int)).toNat).length ≤ 2 * i := by
      rw [List.length_eraseIdx_of_lt hjl]
      omega
    generalize sps.eraseIdx (n % (sps.length : Int)).toNat = sq at hRs6 hoks6 hls6
    generalize ss.eraseIdx (n % (sps.length : Int)).toNat = sv at hRs6 cs6
    clear hRs4 hoks hls cs4 hj0 hj1 hjl hxj hvo hlen hb
    have x6 := s6.bh
    have ho1 : ∀ {σ B'' H''}, σ[6]? = some (some vo) → Ex B' B'' → Ex B'' H'' → EvE (e2 eI eI) (tVar 6) σ B'' H'' one := fun h eb x => es_var x h (Enc.up _ eb hRo)
    have hw0 : one.1 ≤ 12 := by omega
    refine q_setS (E := eT eI) (i := 7) (es_tupLS x6 (em_sortI x6 (em_lcR2 (F := eI) (p := fun _ => true) (Tr := fun _ _ => True) x6 (es_20 x6 (ho1 rfl (Ex.refl _) x6)) (es_21 x6 (ho1 rfl (Ex.refl _) x6)) ⟨by omega, by omega, by omega, by omega⟩ (fun v => rfl) (fun _ _ _ _ _ _ => et_yes) (fun k B8 H8 s8 _ _ _ => ?_)).s).s) fun vg gr B7 H7 s7 hg hvg => ?_
    · exact (es_opC s8.bh (es_opI s8.bh (es_varI s8.bh rfl) (es_varI s8.bh rfl)) (es_varI s8.bh rfl) (by show (0 : Int) < _; omega)).imp fun _ _ => True.intro
    obtain ⟨ns, hns, hperm, _⟩ := hg
    rw [filter_yes] at hns
    have hgl : gr.length = (one.2 - one.1).toNat := by rw [hperm.length_eq, pair_len hns, rg2_len]
    replace s6 := s6.trans s7
    replace cf6 := cf6.up s7
    replace cs6 := cs6.up s7
    replace hRf := Enc.ups _ s7.eb hRf
    replace hRs6 := Enc.ups _ s7.eb hRs6
    replace hRo := Enc.up _ s7.eb hRo
    replace eb := eb.trans s7.eb
    clear hns hperm ho1 x6 s7
    have x6 := s6.bh
    refine q_app (i := 3) cf6 s6 rfl (by rw [pl hRf]; omega) (es_tup2 (E := eT eI) (F := eI) (S := fun z => z = gr) (T := fun z => 1 ≤ z) x6 (es_var x6 rfl hvg) (es_call (n / 9) x6 (ea_c x6 mono_aN (es_opC x6 (es_varI (i := 5) x6 rfl) (es_int x6) ⟨by omega, by omega⟩) (ea_n x6)) (Bd.div hnb (by omega)))) fun vp pr B8 H8 s8 eb8 cf8 oth8 hpr hvp => ?_
    obtain ⟨hp1, hp2⟩ := hpr
    have cs8 := oth8 ls _ hne.symm cs6
    have hRf8 := Paired.snoc (Enc.ups _ eb8 hRf) hvp
    have hokf8 : OkP (fps ++ [pr]) := fun z hz => by
      rcases List.mem_append.mp hz with hz | hz
      · exact hokf z hz
      · rw [List.mem_singleton.mp hz]
        refine ⟨fun h => ?_, by rw [hp1]; omega, hp2⟩
        rw [← hp1, h] at hgl
        have : (0 : Nat) = (one.2 - one.1).toNat := hgl
        omega
    have hlf8 : (fps ++ [pr]).length ≤ i + 1 := by
      rw [List.length_append, List.length_singleton]
      omega
    generalize fps ++ [pr] = fp8 at hRf8 hokf8 hlf8
    generalize fs ++ [vp] = fv8 at hRf8 cf8
    replace hRs6 := Enc.ups _ eb8 hRs6
    replace hRo := Enc.up _ eb8 hRo
    replace eb := eb.trans eb8
    clear hRf hokf hlf cf6 cs6 cf4 x6 oth8 oth6
    have x8 := s8.bh
    have ho1 : ∀ {σ B'' H''}, σ[6]? = some (some vo) → Ex B8 B'' → Ex B'' H'' → EvE (e2 eI eI) (tVar 6) σ B'' H'' one := fun h eb x => es_var x h (Enc.up _ eb hRo)
    have hmb := mixedM_b n 3
    have hmx : 0 < (if one.2 - one.1 - 1 > 1 then one.2 - one.1 - 1 else 1) := by split <;> omega
    have hr0 := Int.emod_nonneg (mixedM n 3) (show (if one.2 - one.1 - 1 > 1 then one.2 - one.1 - 1 else 1) ≠ 0 by omega)
    have hr1 := Int.emod_lt_of_pos (mixedM n 3) hmx
    refine q_setI (i := 8) (es_opI x8 (es_opI x8 (es_20 x8 (ho1 rfl (Ex.refl _) x8)) (es_int x8)) (es_opC x8 (es_call (n, 3) x8 (ea_c x8 (mono_aC mono_aN) (es_varI (i := 5) x8 rfl) (ea_c x8 mono_aN (es_int x8) (ea_n x8))) ⟨by show (-1000 : Int) ≤ 3; decide, by show (3 : Int) ≤ 1000; decide⟩) (es_max2 x8 (es_int x8) (es_opI x8 (es_opI x8 (es_21 x8 (ho1 rfl (Ex.refl _) x8)) (es_20 x8 (ho1 rfl (Ex.refl _) x8))) (es_int x8))) hmx)) fun H9 e9 => ?_
    replace s8 := s8.goH e9
    replace cf8 := cf8.go e9
    replace cs8 := cs8.go e9
    generalize hmid : one.1 + 1 + mixedM n 3 % (if one.2 - one.1 - 1 > 1 then one.2 - one.1 - 1 else 1) = mid
    have hmid1 : one.1 < mid := by omega
    clear x8
    have x8 := s8.bh
    refine c_forL (E := e2 eI eI) (T := fun xs => ∃ x y, (x.1 = one.1 ∧ x.2 = mid) ∧ (y.1 = mid ∧ y.2 = one.2) ∧ xs = [x, y]) (em_lst2S x8 (es_tup2 x8 (es_20 x8 (ho1 rfl (Ex.refl _) x8)) (es_varI (i := 8) x8 rfl)) (es_tup2 x8 (es_varI (i := 8) x8 rfl) (es_21 x8 (ho1 rfl (Ex.refl _) x8)))).s
      (fun xs B9 j σ' H' => ∃ e B' ss sps, σ' = [some v0, some (.int y1), some (.int y2), some (.ref lf), some (.ref ls), some (.int n), some vo, some vg, some (.int mid), e, none] ∧ Stp B H B' H' ∧ Ex B9 B' ∧ Cell H B' H' lf (.lst fv8) ∧ Cell H B' H' ls (.lst ss) ∧ Paired ((e2 eI eI).R B') ss sps ∧ OkS y1 sps ∧ sps.length ≤ 2 * i + j)
      (fun xs B9 H3 s3 hT => ⟨_, B9, _, _, by rw [← hmid]; rfl, s8.trans s3, Ex.refl _, cf8.up s3, cs8.up s3, Enc.ups _ s3.eb hRs6, hoks6, hls6⟩) (fun xs B9 j σ' H' ⟨_, _, _, _, _, s, eb, _⟩ => eb.trans s.bh) (fun xs B9 j two v σ' H' hT eb9 hj hv W => ?_) (fun xs B9 σ' H' hT eb9 W => ?_)
    · obtain ⟨e, B', ss, sps, rfl, s10, eb10, cf10, cs10, hRs10, hoks10, hls10⟩ := W
      obtain ⟨za, zb, ⟨za1, za2⟩, ⟨zb1, zb2⟩, rfl⟩ := hT
      have x10 := s10.bh
      have hv' := Enc.up _ eb10 hv
      have hj2 : j < 2 := (List.getElem?_eq_some_iff.mp hj).1
      have htwo : (two.1 = one.1 ∧ two.2 = mid) ∨ (two.1 = mid ∧ two.2 = one.2) := by
        have := List.mem_of_getElem? hj
        rcases List.mem_cons.mp this with q | q
        · exact .inl ⟨by rw [q]; exact za1, by rw [q]; exact za2⟩
        · have q := List.mem_singleton.mp q
          exact .inr ⟨by rw [q]; exact zb1, by rw [q]; exact zb2⟩
      have ht : ∀ {σ B'' H''}, σ[9]? = some (some v) → Ex B' B'' → Ex B'' H'' → EvE (e2 eI eI) (tVar 9) σ B'' H'' two := fun h eb x => es_var x h (Enc.up _ eb hv')
      have ho2 : ∀ {σ B'' H''}, σ[6]? = some (some vo) → Ex B' B'' → Ex B'' H'' → EvE (e2 eI eI) (tVar 6) σ B'' H'' one := fun h eb x => es_var x h (Enc.up _ ((eb9.trans eb10).trans eb) hRo)
      have r0 := Ex.refl B'
      refine s_when (et_or (et_sT (es_chain x10 (es_20 x10 (ht rfl r0 x10)) (es_21 x10 (ht rfl r0 x10)) (es_21 x10 (ho2 rfl r0 x10)) (fun v w B2 H2 hv hw Q q => ⟨_, _, hv, hw, q⟩) (fun v w B2 H2 hv hw Q q => ⟨_, _, hv, hw, q⟩))) fun _ => et_sT (es_chain x10 (es_20 x10 (ho2 rfl r0 x10)) (es_20 x10 (ht rfl r0 x10)) (es_21 x10 (ht rfl r0 x10)) (fun v w B2 H2 hv hw Q q => ⟨_, _, hv, hw, q⟩) (fun v w B2 H2 hv hw Q q => ⟨_, _, hv, hw, q⟩))) (fun hb H11 e11 => ?_) (fun hb H11 e11 => ⟨_, B', ss, sps, rfl, s10.goH e11, eb10, cf10.go e11, cs10.go e11, hRs10, hoks10, by omega⟩)
      simp only [Bool.or_eq_true, Bool.and_eq_true, decide_eq_true_eq] at hb
      refine c_app (i := 4) (cs10.go e11) (s10.goH e11) rfl (by rw [pl hRs10]; omega) (ht rfl r0 (x10.trans e11)) fun vz z B12 H12 s12 eb12 c12 oth12 hz hvz => ?_
      cases hz
      refine ⟨_, B12, _, sps ++ [two], rfl, s12, eb10.trans eb12, oth12 lf _ hne (cf10.go e11), c12, Paired.snoc (Enc.ups _ eb12 hRs10) hvz, fun s hs => ?_, by rw [List.length_append, List.length_singleton]; omega⟩
      rcases List.mem_append.mp hs with hs | hs
      · exact hoks10 s hs
      · rw [List.mem_singleton.mp hs]
        omega
    · obtain ⟨e, B', ss, sps, rfl, s10, eb10, cf10, cs10, hRs10, hoks10, hls10⟩ := W
      obtain ⟨za, zb, _, _, rfl⟩ := hT
      exact ⟨_, _, _, _, e, B', fv8, ss, fp8, sps, rfl, s10, eb.trans (eb9.trans eb10), cf10, cs10, Enc.ups _ (eb9.trans eb10) hRf8, hRs10, hokf8, hoks10, hlf8, by have : [za, zb].length = 2 := rfl; omega⟩
  · obtain ⟨a, b, c, d, e, B', fs, ss, fps, sps, rfl, s4, eb, cf4, cs4, hRf, hRs4, hokf, hoks, hlf, hls⟩ := w
    subst hT
    obtain ⟨Bp, tp, ebp, hL, _⟩ := cell_pub (E := eP) cf4 s4 hRf
    exact c_ret tp (es_var (E := eL eP) (i := 3) tp.bh rfl hL) fun w y B3 H3 s hy hR => q w y B3 H3 s (by rw [hy]; exact ⟨by omega, hokf⟩) hR
end
end RR
namespace RR
open PySem L2 Evl PyProof.Rows
section
variable {P : Program} {w : World} {K : PySem.W.Frag} {mg : Str → Option Value} {base : Heap}

def OkQ (ps : List Price) : Prop := ps.length ≤ 10 ∧ ∀ p ∈ ps, p.1.length ≤ 13
theorem okq_of {ps xs ys : List Price} {z : Price} {n m : Nat} (h : OkP ps) (h9 : ps.length ≤ 9) (hx : xs = ps.take n) (hy : ys = ps.drop m) (hnm : n ≤ m) (hz : z.1.length ≤ 13) : OkQ (xs ++ [z] ++ ys) := by
  subst hx hy
  refine ⟨?_, fun p hp => ?_⟩
  · rw [List.length_append, List.length_append, List.length_take, List.length_drop, List.length_singleton]
    omega
  · rcases List.mem_append.mp hp with q | q
    · rcases List.mem_append.mp q with q | q
      · have := (h p (List.mem_of_mem_take q)).2.1
        omega
      · rw [List.mem_singleton.mp q]
        exact hz
    · have := (h p (List.mem_of_mem_drop q)).2.1
      omega
abbrev sp_spoilt : Sp := Spec (ar4 (eL eP) eI eI eI) (fun i => i.1 ≠ [] ∧ i.1.length ≤ 9 ∧ OkP i.1 ∧ 2 ≤ i.2.2.1 ∧ i.2.2.1 ≤ 12) (eL eP) (fun _ ps => OkQ ps)
theorem d__law_spoilt (F0 : FunAt K mg "_law_spoilt" s__law_spoilt) (T : Txt K mg)  : DefOk P w K mg base 1 "_law_spoilt" ["_law_prices", "_law_cell", "_law_many", "_law_root"] sp_spoilt := by
  refine mk_def (k := 0) F0 sc__law_spoilt (fun _ _ _ _ _ _ us hl => match us, hl with | [_, _, _, _], _ => rfl) (fun _ => (lenC (lenC (lenC (lenC lenN))))) ?_
  intro f cdv A0 outer s E i B H vs Q hr x0 hA hp q
  obtain ⟨v0, _, _, rfl, rfl, h0, v1, _, _, rfl, rfl, h1, v2, _, _, rfl, rfl, h2, v3, _, _, rfl, rfl, h3, rfl⟩ := hA
  obtain ⟨y0, y1, y2, y3⟩ := i
  (try dsimp only at h0); (try dsimp only at h1); (try dsimp only at h2); (try dsimp only at h3); (try dsimp only at hp); (try dsimp only at q)
  refine ⟨_, (pss_cons (ps_set (i := 4) sc__law_spoilt.nd rfl (by first | exact Or.inl rfl | exact Or.inr rfl) (pe_op op_mod (pe_op op_fdiv (pv 1) pe_int) (pe_callB (k_len (K := K) rfl) (by rfl) T.b_len (by decide +kernel) (pa_cons (pv 0) pa_nil))))
      (pss_cons (ps_set (i := 5) sc__law_spoilt.nd rfl (by first | exact Or.inl rfl | exact Or.inr rfl) (pe_ix (k_ixt (K := K) rfl) (pe_ix (k_ixl (K := K) rfl) (pv 0) (pv 4) (fun _ _ => rfl)) pe_int (fun _ _ => rfl)))
      (pss_cons (ps_set (i := 6) sc__law_spoilt.nd rfl (by first | exact Or.inl rfl | exact Or.inr rfl) (pe_ix (k_ixt (K := K) rfl) (pe_ix (k_ixl (K := K) rfl) (pv 0) (pv 4) (fun _ _ => rfl)) pe_int (fun _ _ => rfl)))
      (pss_cons (ps_set (i := 7) sc__law_spoilt.nd rfl (by first | exact Or.inl rfl | exact Or.inr rfl) (pe_op op_fdiv (pe_op op_fdiv (pv 1) pe_int) (pe_callB (k_len (K := K) rfl) (by rfl) T.b_len (by decide +kernel) (pa_cons (pv 0) pa_nil))))
      (pss_cons (ps_if (pt_cmpR op_lt (pe_op op_mod (pv 1) pe_int) pe_int (nomark _)) (pss_cons (ps_set (i := 8) sc__law_spoilt.nd rfl (by first | exact Or.inl rfl | exact Or.inr rfl) (pe_ix (k_ixl (K := K) rfl) (pe_lst (pa_cons pe_int (pa_cons (pe_un un_neg pe_int) (pa_cons pe_int (pa_cons pe_int (pa_cons (pe_op op_sub (pv 6) pe_int) (pa_cons (pe_op op_add (pv 6) pe_int) pa_nil))))))) (pe_op op_mod (pv 1) pe_int) (fun _ _ => rfl)))
      (pss_one (ps_ret (pe_op op_cat (pe_op op_cat (pe_slice (k_sll (K := K) rfl) (pv 0) po_none (po_some (pv 4))) (pe_lst (pa_cons (pe_tup (pa_cons (pv 5) (pa_cons (pv 8) pa_nil))) pa_nil))) (pe_slice (k_sll (K := K) rfl) (pv 0) (po_some (pe_op op_add (pv 4) pe_int)) po_none))))) pss_nil)
      (pss_cons (ps_if (pt_cmpR op_eq (pe_op op_mod (pv 1) pe_int) pe_int (nomark _)) (pss_one (ps_ret (pe_op op_cat (pe_op op_cat (pe_slice (k_sll (K := K) rfl) (pv 0) po_none (po_some (pv 4))) (pe_lst (pa_cons (pe_ix (k_ixl (K := K) rfl) (pv 0) (pv 4) (fun _ _ => rfl)) pa_nil))) (pe_slice (k_sll (K := K) rfl) (pv 0) (po_some (pv 4)) po_none)))) pss_nil)
      (pss_cons (ps_set (i := 9) sc__law_spoilt.nd rfl (by first | exact Or.inl rfl | exact Or.inr rfl) (pe_ix (k_ixl (K := K) rfl) (pe_lst (pa_cons (pv 3) (pa_cons (pv 2) (pa_cons (pe_un un_neg pe_int) (pa_cons (pe_ix (k_ixt (K := K) rfl) (pv 5) (pe_op op_mod (pv 7) (pe_callB (k_len (K := K) rfl) (by rfl) T.b_len (by decide +kernel) (pa_cons (pv 5) pa_nil))) (fun _ _ => rfl)) (pa_cons (pe_op op_mod (pv 7) (pv 2)) pa_nil)))))) (pe_op op_mod (pe_op op_mod (pv 1) pe_int) pe_int) (fun _ _ => rfl)))
      (pss_cons (ps_set (i := 10) sc__law_spoilt.nd rfl (by first | exact Or.inl rfl | exact Or.inr rfl) (pe_callTy (k_tuple (K := K) rfl) (by rfl) T.b_tuple (by decide +kernel) (pa_cons (pe_callB (k_sortI (K := K) rfl) (by rfl) T.b_sorted (by decide +kernel) (pa_cons (pe_op op_cat (pe_callTy (k_list (K := K) rfl) (by rfl) T.b_list (by decide +kernel) (pa_cons (pv 5) pa_nil)) (pe_lst (pa_cons (pv 9) pa_nil))) pa_nil)) pa_nil)))
      (pss_cons (ps_if (pt_cmpR op_eq (pe_op op_mod (pv 1) pe_int) pe_int (nomark _)) (pss_one (ps_set (i := 10) sc__law_spoilt.nd rfl (by first | exact Or.inl rfl | exact Or.inr rfl) (pe_callTy (k_tuple (K := K) rfl) (by rfl) T.b_tuple (by decide +kernel) (pa_cons (pe_callBK (cl_sortTR (K := K) (b := true) rfl) (by rfl) T.b_sorted (by decide +kernel) (pa_cons (pv 5) pa_nil) (pk_cons pe_bl pk_nil)) pa_nil)))) pss_nil)
      (pss_cons (ps_if (pt_cmpR op_eq (pe_op op_mod (pv 1) pe_int) pe_int (nomark _)) (pss_one (ps_set (i := 10) sc__law_spoilt.nd rfl (by first | exact Or.inl rfl | exact Or.inr rfl) (pe_op (k_catA (K := K) rfl) (pv 5) (pe_tup (pa_cons (pv 9) pa_nil))))) pss_nil)
      (pss_cons (ps_if (pw_and (pt_cmpR op_eq (pe_op op_mod (pv 1) pe_int) pe_int (nomark _)) (pw_and1 (pt_cmpR op_eq (pe_op op_mod (pv 7) pe_int) pe_int (nomark _)))).pt (pss_one (ps_set (i := 10) sc__law_spoilt.nd rfl (by first | exact Or.inl rfl | exact Or.inr rfl) (pe_tup pa_nil))) pss_nil)
      (pss_one (ps_ret (pe_op op_cat (pe_op op_cat (pe_slice (k_sll (K := K) rfl) (pv 0) po_none (po_some (pv 4))) (pe_lst (pa_cons (pe_tup (pa_cons (pv 10) (pa_cons (pv 6) pa_nil))) pa_nil))) (pe_slice (k_sll (K := K) rfl) (pv 0) (po_some (pe_op op_add (pv 4) pe_int)) po_none))))))))))))))), ?_⟩
  cases h1
  cases h2
  cases h3
  obtain ⟨hne, h9, hok, hm, hm2⟩ := hp
  have hl : 0 < y0.length := List.length_pos_iff.mpr hne
  have g0 := Int.emod_nonneg (y1 / 14) (show (y0.length : Int) ≠ 0 by omega)
  have g1 := Int.emod_lt_of_pos (y1 / 14) (show (0 : Int) < (y0.length : Int) by omega)
  refine q_setI (i := 4) (es_opC x0 (es_opC x0 (es_varI (i := 1) x0 rfl) (es_int x0) ⟨by omega, by omega⟩) (es_lenL x0 (es_var x0 rfl h0)) (by show (0 : Int) < _; omega)) fun H1 e1 => ?_
  generalize y1 / 14 % (y0.length : Int) = at0 at g0 g1
  have s1 := Stp.go x0 e1
  have hatl : at0.toNat < y0.length := by omega
  have hx := List.getElem?_eq_getElem hatl
  generalize y0[at0.toNat] = pr at hx
  have hpr := hok pr (List.mem_of_getElem? hx)
  have hc1 : cutP y0 none (some at0) = y0.take at0.toNat := cutP_to _ g0 (by omega)
  have hc2 : cutP y0 (some (at0 + 1)) none = y0.drop (at0.toNat + 1) := by
    rw [cutP_from _ (by omega) (by omega)]
    congr 1
    omega
  have hc2' : cutP y0 (some at0) none = y0.drop at0.toNat := cutP_from _ g0 (by omega)
  have hix : ∀ {σ B' H'}, σ[4]? = some (some (V.int at0)) → σ[0]? = some (some v0) → Ex B B' → Ex B' H' → EvE eP (tOp (rIxL K) (tVar 0) (tVar 4)) σ B' H' pr := fun h6 h7 eb x => es_ixL x (es_var x h7 (Enc.up _ eb h0)) (es_varI x h6) g0 hx
  refine q_setS (E := eT eI) (i := 5) (es_20 s1.bh (hix rfl rfl (Ex.refl _) s1.bh)) fun vg gr B2 H2 s2 hg hvg => ?_
  cases hg
  replace s1 := s1.trans s2
  refine q_setI (i := 6) (es_21 s1.bh (hix rfl rfl s1.eb s1.bh)) fun H3 e3 => ?_
  replace s1 := s1.goH e3
  replace h0 := Enc.up _ s1.eb h0
  have x1 := s1.bh
  refine q_setI (i := 7) (es_opC x1 (es_opC x1 (es_varI (i := 1) x1 rfl) (es_int x1) ⟨by omega, by omega⟩) (es_lenL x1 (es_var x1 rfl h0)) ⟨by omega, by omega⟩) fun H4 e4 => ?_
  generalize y1 / 14 / (y0.length : Int) = more
  replace s1 := s1.goH e4
  clear x1
  have x1 := s1.bh
  have hg14 := Int.emod_nonneg y1 (show (14 : Int) ≠ 0 by decide)
  refine q_when (et_sT (es_opB x1 (es_opC x1 (es_varI x1 rfl) (es_int x1) (by first | (show (0 : Int) < _; omega) | (show (0 : Int) < _; decide +kernel))) (es_int x1))) (fun hb H5 e5 => ?_) (fun hb H5 e5 => ?_)
  · replace s1 := s1.goH e5
    have x2 := s1.bh
    have hb := of_decide_eq_true hb
    refine q_setS (E := eI) (i := 8) (es_ixLM x2 (em_lst (ea_cons' x2 (es_int x2) (ea_cons' x2 (es_neg (es_int x2)) (ea_cons' x2 (es_int x2) (ea_cons' x2 (es_int x2) (ea_cons' x2 (es_opI x2 (es_varI (i := 6) x2 rfl) (es_int x2)) (ea_cons' x2 (es_opI x2 (es_varI (i := 6) x2 rfl) (es_int x2)) (ea_nil' x2))))))) (by show 6 ≤ 100000; decide)).s (es_opC x2 (es_varI (i := 1) x2 rfl) (es_int x2) (by show (0 : Int) < 14; decide)) hg14 (by show _ < (6 : Int); exact hb)) fun v new B6 H6 s6 _ hv => ?_
    cases hv
    replace s1 := s1.trans s6
    replace h0 := Enc.up _ s6.eb h0
    replace hvg := Enc.up _ s6.eb hvg
    clear x1 x2
    have x2 := s1.bh
    exact c_ret s1 (em_catS (S := fun zs => ∃ xs ys, xs = cutP y0 none (some at0) ∧ (∃ x, (fun z : Price => z.1 = pr.1 ∧ True) x ∧ ys = [x]) ∧ zs = xs ++ ys) (T := fun ys => ys = cutP y0 (some (at0 + 1)) none) x2 (em_catS x2 (em_slL x2 (es_var (E := eL eP) (i := 0) x2 rfl h0) eo_none (eo_some' (es_varI (i := 4) x2 rfl))).s (em_lst1S x2 (es_tup2 (S := fun z => z = pr.1) (T := fun _ => True) x2 (es_var (i := 5) x2 rfl hvg) ((es_varI (i := 8) x2 rfl).imp fun _ _ => True.intro))).s (fun xs ys hx hy => by obtain ⟨z, _, e⟩ := hy; subst hx e; rw [hc1, List.length_take, List.length_singleton]; omega)).s (em_slL x2 (es_var (E := eL eP) (i := 0) x2 rfl h0) (eo_some' (es_opI x2 (es_varI (i := 4) x2 rfl) (es_int x2))) eo_none).s (fun xs ys hx hy => by obtain ⟨u, v, e1, ⟨z, _, e2⟩, e3⟩ := hx; subst e1 e2 e3 hy; rw [hc1, hc2, List.length_append, List.length_take, List.length_drop, List.length_singleton]; omega)).s fun w y B2 H2 s hy hR => q w y B2 H2 s (by
      obtain ⟨_, ys, ⟨xs, _, e1, ⟨z, hz, e2⟩, e3⟩, e4, e5⟩ := hy
      subst e1 e2 e3 e4 e5
      exact okq_of hok h9 hc1 hc2 (by omega) (by rw [hz.1]; have := hpr.2.1; omega)) hR
  replace s1 := s1.goH e5
  clear x1 hb
  have x1 := s1.bh
  refine q_when (et_sT (es_eqI x1 (es_opC x1 (es_varI x1 rfl) (es_int x1) (by first | (show (0 : Int) < _; omega) | (show (0 : Int) < _; decide +kernel))) (es_int x1))) (fun hb H6 e6 => ?_) (fun hb H6 e6 => ?_)
  · replace s1 := s1.goH e6
    clear x1
    have x1 := s1.bh
    exact c_ret s1 (em_catS (S := fun zs => ∃ xs ys, xs = cutP y0 none (some at0) ∧ (∃ x, (fun z : Price => z = pr) x ∧ ys = [x]) ∧ zs = xs ++ ys) (T := fun ys => ys = cutP y0 (some (at0)) none) x1 (em_catS x1 (em_slL x1 (es_var (E := eL eP) (i := 0) x1 rfl h0) eo_none (eo_some' (es_varI (i := 4) x1 rfl))).s (em_lst1S x1 (hix rfl rfl s1.eb x1)).s (fun xs ys hx hy => by obtain ⟨z, _, e⟩ := hy; subst hx e; rw [hc1, List.length_take, List.length_singleton]; omega)).s (em_slL x1 (es_var (E := eL eP) (i := 0) x1 rfl h0) (eo_some' (es_varI (i := 4) x1 rfl)) eo_none).s (fun xs ys hx hy => by obtain ⟨u, v, e1, ⟨z, _, e2⟩, e3⟩ := hx; subst e1 e2 e3 hy; rw [hc1, hc2', List.length_append, List.length_take, List.length_drop, List.length_singleton]; omega)).s fun w y B2 H2 s hy hR => q w y B2 H2 s (by
      obtain ⟨_, ys, ⟨xs, _, e1, ⟨z, hz, e2⟩, e3⟩, e4, e5⟩ := hy
      subst e1 e2 e3 e4 e5
      exact okq_of hok h9 hc1 hc2' (by omega) (by rw [hz]; have := hpr.2.1; omega)) hR
  replace s1 := s1.goH e6
  clear x1 hb
  have x1 := s1.bh
  have hgl : (0 : Int) < (pr.1.length : Int) := by
    have := List.length_pos_iff.mpr hpr.1
    omega
  have hm0 := Int.emod_nonneg more (show (pr.1.length : Int) ≠ 0 by omega)
  have hm1 := Int.emod_lt_of_pos more hgl
  have hgi : (more % (pr.1.length : Int)).toNat < pr.1.length := by omega
  have hgx := List.getElem?_eq_getElem hgi
  generalize pr.1[(more % (pr.1.length : Int)).toNat] = gx at hgx
  have hk0 := Int.emod_nonneg (y1 % 14) (show (5 : Int) ≠ 0 by decide)
  have hk1 := Int.emod_lt_of_pos (y1 % 14) (show (0 : Int) < 5 by decide)
  refine q_setS (E := eI) (i := 9) (es_ixLM x1 (em_lst (E := eI) (xs := [y3, y2, -1, gx, more % y2]) (ea_cons' x1 (es_varI (i := 3) x1 rfl) (ea_cons' x1 (es_varI (i := 2) x1 rfl) (ea_cons' x1 (es_neg (es_int x1)) (ea_cons' x1 (es_ixT (x := gx) (i := more % (pr.1.length : Int)) x1 (es_var (i := 5) x1 rfl hvg) (es_opC (g := fun a b => a % b) x1 (es_varI (i := 7) x1 rfl) (es_lenT x1 (es_var (i := 5) x1 rfl hvg)) hgl) hm0 hgx) (ea_cons' x1 (es_opC x1 (es_varI (i := 7) x1 rfl) (es_varI (i := 2) x1 rfl) (by show (0 : Int) < _; omega)) (ea_nil' x1)))))) (by show 5 ≤ 100000; decide)).s (es_opC x1 (es_opC x1 (es_varI x1 rfl) (es_int x1) (by first | (show (0 : Int) < _; omega) | (show (0 : Int) < _; decide +kernel))) (es_int x1) (by first | (show (0 : Int) < _; omega) | (show (0 : Int) < _; decide +kernel))) hk0 hk1) fun v pl B6 H6 s6 _ hv => ?_
  cases hv
  replace s1 := s1.trans s6
  replace h0 := Enc.up _ s6.eb h0
  replace hvg := Enc.up _ s6.eb hvg
  clear x1
  have x1 := s1.bh
  refine q_setS (E := eT eI) (i := 10) (es_tupLS x1 (em_sortI x1 (em_cat x1 (em_listT x1 (es_var (i := 5) x1 rfl hvg)).s (em_lst (ea_cons' x1 (es_varI (i := 9) x1 rfl) (ea_nil' x1)) (by show 1 ≤ 100000; decide)).s (by have := hpr.2.1; show _ + 1 ≤ 100000; omega)).s).s) fun vs so B7 H7 s7 hso hvs => ?_
  have hsl : so.length ≤ 13 := by
    obtain ⟨ns, e, hperm, _⟩ := hso
    rw [hperm.length_eq, e, List.length_append, List.length_singleton]
    have := hpr.2.1
    omega
  replace s1 := s1.trans s7
  replace h0 := Enc.up _ s7.eb h0
  replace hvg := Enc.up _ s7.eb hvg
  clear x1 hso
  have x1 := s1.bh
  refine q_ifSetE (E := eT eI) (i := 10) (T := fun z => z.length ≤ 13) (et_sT (es_eqI x1 (es_opC x1 (es_varI x1 rfl) (es_int x1) (by first | (show (0 : Int) < _; omega) | (show (0 : Int) < _; decide +kernel))) (es_int x1))) x1 (fun hb => (es_tupLS x1 (em_sortTR x1 (es_var (i := 5) x1 rfl hvg)).s).imp fun y hy => ?_) (fun hb => ⟨vs, so, rfl, hsl, hvs⟩) fun v2 so2 B8 H8 s8 hsl2 hvs2 => ?_
  · rw [hy.length_eq]
    have := hpr.2.1
    omega
  replace s1 := s1.trans s8
  replace h0 := Enc.up _ s8.eb h0
  replace hvg := Enc.up _ s8.eb hvg
  clear x1
  have x1 := s1.bh
  refine q_ifSetE (E := eT eI) (i := 10) (T := fun z => z.length ≤ 13) (et_sT (es_eqI x1 (es_opC x1 (es_varI x1 rfl) (es_int x1) (by first | (show (0 : Int) < _; omega) | (show (0 : Int) < _; decide +kernel))) (es_int x1))) x1 (fun hb => (es_catT (S := fun y => y = pr.1) (T := fun y => ∃ x, x = pl ∧ y = [x]) x1 (es_var (i := 5) x1 rfl hvg) (es_tup1S x1 (es_varI (i := 9) x1 rfl)) (fun xs ys hx hy => ?_)).imp fun y hy => ?_) (fun hb => ⟨v2, so2, rfl, hsl2, hvs2⟩) fun v3 so3 B9 H9 s9 hsl3 hvs3 => ?_
  · obtain ⟨z, _, rfl⟩ := hy
    subst hx
    have := hpr.2.1
    rw [List.length_singleton]
    omega
  · obtain ⟨xs, ys, rfl, ⟨z, _, rfl⟩, rfl⟩ := hy
    rw [List.length_append, List.length_singleton]
    have := hpr.2.1
    omega
  replace s1 := s1.trans s9
  replace h0 := Enc.up _ s9.eb h0
  clear x1
  have x1 := s1.bh
  refine q_ifSetE (E := eT eI) (i := 10) (T := fun z => z.length ≤ 13) (et_and (et_sT (es_eqI x1 (es_opC x1 (es_varI x1 rfl) (es_int x1) (by first | (show (0 : Int) < _; omega) | (show (0 : Int) < _; decide +kernel))) (es_int x1))) fun _ => (et_sT (es_eqI x1 (es_opC x1 (es_varI x1 rfl) (es_int x1) (by first | (show (0 : Int) < _; omega) | (show (0 : Int) < _; decide +kernel))) (es_int x1)))) x1 (fun hb => (es_tupT (ea_nil' x1) (by decide)).imp fun y hy => ?_) (fun hb => ⟨v3, so3, rfl, hsl3, hvs3⟩) fun v4 so4 B10 H10 s10 hsl4 hvs4 => ?_
  · rw [hy]
    decide
  replace s1 := s1.trans s10
  replace h0 := Enc.up _ s10.eb h0
  clear x1
  have x2 := s1.bh
  exact c_ret s1 (em_catS (S := fun zs => ∃ xs ys, xs = cutP y0 none (some at0) ∧ (∃ x, (fun z : Price => z.1 = so4 ∧ z.2 = pr.2) x ∧ ys = [x]) ∧ zs = xs ++ ys) (T := fun ys => ys = cutP y0 (some (at0 + 1)) none) x2 (em_catS x2 (em_slL x2 (es_var (E := eL eP) (i := 0) x2 rfl h0) eo_none (eo_some' (es_varI (i := 4) x2 rfl))).s (em_lst1S x2 (es_tup2 (S := fun z => z = so4) (T := fun z => z = pr.2) x2 (es_var (i := 10) x2 rfl hvs4) (es_varI (i := 6) x2 rfl))).s (fun xs ys hx hy => by obtain ⟨z, _, e⟩ := hy; subst hx e; rw [hc1, List.length_take, List.length_singleton]; omega)).s (em_slL x2 (es_var (E := eL eP) (i := 0) x2 rfl h0) (eo_some' (es_opI x2 (es_varI (i := 4) x2 rfl) (es_int x2))) eo_none).s (fun xs ys hx hy => by obtain ⟨u, v, e1, ⟨z, _, e2⟩, e3⟩ := hx; subst e1 e2 e3 hy; rw [hc1, hc2, List.length_append, List.length_take, List.length_drop, List.length_singleton]; omega)).s fun w y B2 H2 s hy hR => q w y B2 H2 s (by
      obtain ⟨_, ys, ⟨xs, _, e1, ⟨z, hz, e2⟩, e3⟩, e4, e5⟩ := hy
      subst e1 e2 e3 e4 e5
      exact okq_of hok h9 hc1 hc2 (by omega) (by rw [hz.1]; exact hsl4)) hR

abbrev sp_set : Sp := Spec (ar3 (eT eI) eI eI) (fun i => i.1.length ≤ 100) eB (fun i y => y = true ↔ IsGroup i.2.1 i.2.2 i.1)
theorem d__law_set (F0 : FunAt K mg "_law_set" s__law_set) (T : Txt K mg)  : DefOk P w K mg base 1 "_law_set" ["_law_group", "_law_many", "_law_root"] sp_set := by
  refine mk_def (k := 0) F0 sc__law_set (fun _ _ _ _ _ _ us hl => match us, hl with | [_, _, _], _ => rfl) (fun _ => (lenC (lenC (lenC lenN)))) ?_
  intro f cdv A0 outer s E i B H vs Q hr x0 hA hp q
  obtain ⟨v0, _, _, rfl, rfl, h0, v1, _, _, rfl, rfl, h1, v2, _, _, rfl, rfl, h2, rfl⟩ := hA
  obtain ⟨y0, y1, y2⟩ := i
  (try dsimp only at h0); (try dsimp only at h1); (try dsimp only at h2); (try dsimp only at hp); (try dsimp only at q)
  refine ⟨_, (pss_cons (ps_for PassesOwn.never rfl (pi_range1 (by rfl) T.b_range (pa_cons (pe_callB (k_len (K := K) rfl) (by rfl) T.b_len (by decide +kernel) (pa_cons (pv 0) pa_nil)) pa_nil)) (pg_name (i := 3) sc__law_set.nd rfl (by first | exact Or.inl rfl | exact Or.inr rfl)) (pss_cons (ps_if (pw_or (pt_cmpR op_lt (pe_ix (k_ixt (K := K) rfl) (pv 0) (pv 3) (fun _ _ => rfl)) pe_int (nomark _)) (pw_or (pt_cmpR op_ge (pe_ix (k_ixt (K := K) rfl) (pv 0) (pv 3) (fun _ _ => rfl)) (pv 1) (nomark _)) (pw_or1 (pt_cmpR op_eq (pe_ix (k_ixt (K := K) rfl) (pv 0) (pv 3) (fun _ _ => rfl)) (pv 2) (nomark _))))).pt (pss_one (ps_ret pe_bl)) pss_nil)
      (pss_one (ps_if (pw_and (pt_cmpR op_gt (pv 3) pe_int (nomark _)) (pw_and1 (pt_cmpR op_ge (pe_ix (k_ixt (K := K) rfl) (pv 0) (pe_op op_sub (pv 3) pe_int) (fun _ _ => rfl)) (pe_ix (k_ixt (K := K) rfl) (pv 0) (pv 3) (fun _ _ => rfl)) (nomark _)))).pt (pss_one (ps_ret pe_bl)) pss_nil))))
      (pss_one (ps_ret (pe_cmpR op_gt (pe_callB (k_len (K := K) rfl) (by rfl) T.b_len (by decide +kernel) (pa_cons (pv 0) pa_nil)) pe_int (nomark _))))), ?_⟩
  cases h1
  cases h2
  have hz : y0.length ≤ 100 := hp
  have no : ∀ {σ : L2.St} {B' H' : Hp} {D : Ends}, Stp B H B' H' → D.rt = Q → ¬ IsGroup y1 y2 y0 → tRet (tC (.bl false)) D σ H' := fun s e h => c_ret s (es_bl s.bh) fun w y B2 H2 s hy hR => by
    rw [e]
    exact q w y B2 H2 s ⟨fun h => (by rw [hy] at h; cases h), fun z => absurd z h⟩ hR
  refine q_forR (es_lenT x0 (es_var x0 rfl h0)) ⟨by omega, by omega⟩ (fun i σ' H' => ∃ a, σ' = [some v0, some (.int y1), some (.int y2), a] ∧ Stp B H B H' ∧ GroupTo y1 y0 i ∧ ¬ y2 ∈ y0.take i)
    (fun H4 e4 => ⟨none, rfl, Stp.go x0 e4, group0 _ _, by simp⟩) (fun i σ' H' hi w => ?_) (fun σ' H' w => ?_)
  · obtain ⟨a, rfl, s, hG, hN⟩ := w
    have x1 := s.bh
    have hi' : i < y0.length := by omega
    have hx : y0[i]? = some y0[i] := List.getElem?_eq_getElem hi'
    generalize y0[i] = x at hx
    have hix : ∀ {σ H'}, σ[3]? = some (some (V.int i)) → σ[0]? = some (some v0) → Ex B H' → EvE eI (tOp (rIxT K) (tVar 0) (tVar 3)) σ B H' x := fun h6 h7 x => es_ixT x (es_var x h7 h0) (es_varI x h6) (by omega) (by rw [Int.toNat_natCast]; exact hx)
    refine q_when (et_or (et_sT (es_opB (g := fun a b => decide (a < b)) x1 (hix rfl rfl x1) (es_int x1))) fun _ => et_or (et_sT (es_opB (g := fun a b => decide (b ≤ a)) x1 (hix rfl rfl x1) (es_varI x1 rfl))) fun _ => et_sT (es_eqI x1 (hix rfl rfl x1) (es_varI x1 rfl))) (fun hb H5 e5 => ?_) (fun hb H5 e5 => ?_)
    · refine no (s.goH e5) rfl fun h => ?_
      have h3 := h.inm x (List.mem_of_getElem? hx)
      have h4 : x ≠ y2 := fun q => h.nr (q ▸ List.mem_of_getElem? hx)
      simp only [Bool.or_eq_true, decide_eq_true_eq] at hb
      omega
    have hxm : (0 ≤ x ∧ x < y1) ∧ x ≠ y2 := by
      simp only [Bool.or_eq_false_iff, decide_eq_false_iff_not] at hb
      omega
    have hN' : ¬ y2 ∈ y0.take (i + 1) := by
      rw [take_next hx]
      intro q
      rcases List.mem_append.mp q with q | q
      · exact hN q
      · exact hxm.2 (List.mem_singleton.mp q).symm
    have x2 := x1.trans e5
    cases i with
    | zero =>
      refine s_when (b := false) (et_is (et_and (et_sT (es_opB (g := fun a b => decide (b < a)) x2 (es_varI (i := 3) x2 rfl) (es_int x2))) (b := false) fun hc => ?_) rfl) (fun hb => by cases hb) (fun _ H6 e6 => ⟨_, rfl, (s.goH e5).goH e6, group_next hG hx hxm.1 fun j y hj => by omega, hN'⟩)
      exact absurd (of_decide_eq_true hc) (by decide)
    | succ j =>
      have hj' : j < y0.length := by omega
      have hxj : y0[j]? = some y0[j] := List.getElem?_eq_getElem hj'
      generalize y0[j] = z at hxj
      refine s_when (et_and (et_sT (es_opB (g := fun a b => decide (b < a)) x2 (es_varI (i := 3) x2 rfl) (es_int x2))) fun _ => et_sT (es_opB (g := fun a b => decide (b ≤ a)) x2 (es_ixT (x := z) x2 (es_var (i := 0) x2 rfl h0) (es_opI x2 (es_varI (i := 3) x2 rfl) (es_int x2)) (by omega) (by rw [show ((((j + 1 : Nat) : Int) - 1).toNat) = j by omega]; exact hxj)) (hix rfl rfl x2))) (fun hb H6 e6 => ?_) (fun hb H6 e6 => ⟨_, rfl, (s.goH e5).goH e6, group_next hG hx hxm.1 fun j' y hj hy => ?_, hN'⟩)
      · refine no ((s.goH e5).goH e6) rfl fun h => ?_
        have h3 := up_lt h.up hxj hx
        simp only [Bool.and_eq_true, decide_eq_true_eq] at hb
        omega
      · have : j' = j := by omega
        subst this
        rw [hxj] at hy
        cases hy
        simp only [Bool.and_eq_false_iff, decide_eq_false_iff_not] at hb
        omega
  · obtain ⟨a, rfl, s, hG, hN⟩ := w
    rw [Int.toNat_natCast] at hG hN
    rw [List.take_length] at hN
    have hG' := group_all hG
    refine c_ret s (es_opB (g := fun a b => decide (b < a)) s.bh (es_lenT s.bh (es_var s.bh rfl h0)) (es_int s.bh)) fun w y B2 H2 s hy hR => q w y B2 H2 s ⟨fun h => ⟨fun e => ?_, hN, hG'.1, hG'.2⟩, fun h => ?_⟩ hR
    · rw [hy, e] at h
      exact absurd (of_decide_eq_true h) (by decide)
    · rw [hy]
      have := List.length_pos_iff.mpr h.ne
      exact decide_eq_true (by omega)
end
end RR
namespace RR
open PySem L2 Evl PyProof.Rows
section
variable {P : Program} {w : World} {K : PySem.W.Frag} {mg : Str → Option Value} {base : Heap}

theorem eqv_ints : ∀ xs ys : List Int, PyData.eqvAll (xs.map PyData.int) (ys.map PyData.int) = decide (xs = ys)
  | [], [] => rfl
  | [], _ :: _ => rfl
  | _ :: _, [] => rfl
  | x :: xs, y :: ys => by
    show ((x == y) && PyData.eqvAll (xs.map PyData.int) (ys.map PyData.int)) = _
    rw [eqv_ints xs ys, Bool.eq_iff_iff]
    simp
theorem es_eqT {ta tb : TE} {σ : L2.St} {B H : Hp} {xs ys : List Int} (x0 : Ex B H) (ha : EvE (eT eI) ta σ B H xs) (hb : EvE (eT eI) tb σ B H ys) : EvE eB (tOp (rEqD K) ta tb) σ B H (decide (xs = ys)) :=
  (es_eqD (deT deI) (deT deI) (by decide) (by decide) x0 ha hb).to (eqv_ints xs ys)
abbrev sp_due : Sp := Spec (ar4 eI (eL eR) eI (eL eP)) (fun i => OkQ i.2.2.2) eB (fun i y => y = true ↔ IsPrices i.1 i.2.2.1 i.2.1 i.2.2.2)
theorem d__law_due (F0 : FunAt K mg "_law_due" s__law_due) (T : Txt K mg) (G__law_set : DefOk P w K mg base 1 "_law_set" ["_law_group", "_law_many", "_law_root"] sp_set) (G__law_borne : DefOk P w K mg base 1 "_law_borne" ["_law_start", "_law_end", "_law_prices"] sp_borne) : DefOk P w K mg base 3 "_law_due" ["_law_many", "_law_roads", "_law_root", "_law_prices"] sp_due := by
  refine mk_def (k := 2) F0 sc__law_due (fun _ _ _ _ _ _ us hl => match us, hl with | [_, _, _, _], _ => rfl) (fun _ => (lenC (lenC (lenC (lenC lenN))))) ?_
  intro f cdv A0 outer s E i B H vs Q hr x0 hA hp q
  obtain ⟨v0, _, _, rfl, rfl, h0, v1, _, _, rfl, rfl, h1, v2, _, _, rfl, rfl, h2, v3, _, _, rfl, rfl, h3, rfl⟩ := hA
  obtain ⟨y0, y1, y2, y3⟩ := i
  (try dsimp only at h0); (try dsimp only at h1); (try dsimp only at h2); (try dsimp only at h3); (try dsimp only at hp); (try dsimp only at q)
  refine ⟨_, (pss_cons (ps_for PassesOwn.never rfl (pi_range1 (by rfl) T.b_range (pa_cons (pe_callB (k_len (K := K) rfl) (by rfl) T.b_len (by decide +kernel) (pa_cons (pv 3) pa_nil)) pa_nil)) (pg_name (i := 4) sc__law_due.nd rfl (by first | exact Or.inl rfl | exact Or.inr rfl)) (pss_cons (ps_set (i := 5) sc__law_due.nd rfl (by first | exact Or.inl rfl | exact Or.inr rfl) (pe_ix (k_ixt (K := K) rfl) (pe_ix (k_ixl (K := K) rfl) (pv 3) (pv 4) (fun _ _ => rfl)) pe_int (fun _ _ => rfl)))
      (pss_cons (ps_if (pt_not (pt_val (pe_callD G__law_set (hr.mono (by decide)) (by rfl) (pa_cons (pv 5) (pa_cons (pv 0) (pa_cons (pv 2) pa_nil)))))) (pss_one (ps_ret pe_bl)) pss_nil)
      (pss_cons (ps_if (pw_or (pt_val (pe_callB (k_isi (K := K) rfl) (by rfl) T.b_isinstance (by decide +kernel) (pa_cons (pe_ix (k_ixt (K := K) rfl) (pe_ix (k_ixl (K := K) rfl) (pv 3) (pv 4) (fun _ _ => rfl)) pe_int (fun _ _ => rfl)) (pa_cons (pe_bltn (v := .ty "bool") (u := .type "bool") (by rfl) T.b_bool (by decide +kernel) rfl) pa_nil)))) (pw_or1 (pt_cmpR op_lt (pe_ix (k_ixt (K := K) rfl) (pe_ix (k_ixl (K := K) rfl) (pv 3) (pv 4) (fun _ _ => rfl)) pe_int (fun _ _ => rfl)) pe_int (nomark _)))).pt (pss_one (ps_ret pe_bl)) pss_nil)
      (pss_one (ps_for PassesOwn.never rfl (pi_list (pe_slice (k_sll (K := K) rfl) (pv 3) po_none (po_some (pv 4)))) (pg_name (i := 6) sc__law_due.nd rfl (by first | exact Or.inl rfl | exact Or.inr rfl)) (pss_cons (ps_set (i := 7) sc__law_due.nd rfl (by first | exact Or.inl rfl | exact Or.inr rfl) (pe_callB (k_len (K := K) rfl) (by rfl) T.b_len (by decide +kernel) (pa_cons (pe_lc (own := [("_law_place", 9)]) (g := gName 9) rfl sc__law_due.nd (pi_tup (pv 5)) (blkOk_by (N := N__law_due) (sc := defScope s__law_due) (by decide +kernel)) (fun _ _ _ _ _ => pg_name (i := 9) sc__law_due.nd rfl (Or.inl rfl)) (fun _ _ _ _ _ => (pts_one (pt_cmpR (k_in (K := K) rfl) (pv 9) (pe_ix (k_ixt (K := K) rfl) (pv 6) pe_int (fun _ _ => rfl)) (by rfl)))) (fun _ _ _ _ _ => (pv 9))) pa_nil)))
      (pss_cons (ps_if (pt_cmpR (k_eqD hr.units (K := K) rfl) (pv 5) (pe_ix (k_ixt (K := K) rfl) (pv 6) pe_int (fun _ _ => rfl)) (nomark _)) (pss_one (ps_ret pe_bl)) pss_nil)
      (pss_one (ps_if (pw_and (pt_cmpR op_gt (pv 7) pe_int (nomark _)) (pw_and (pt_cmpR op_lt (pv 7) (pe_callB (k_len (K := K) rfl) (by rfl) T.b_len (by decide +kernel) (pa_cons (pv 5) pa_nil)) (nomark _)) (pw_and1 (pt_cmpR op_lt (pv 7) (pe_callB (k_len (K := K) rfl) (by rfl) T.b_len (by decide +kernel) (pa_cons (pe_ix (k_ixt (K := K) rfl) (pv 6) pe_int (fun _ _ => rfl)) pa_nil)) (nomark _))))).pt (pss_one (ps_ret pe_bl)) pss_nil))))))))))
      (pss_cons (ps_for PassesOwn.never rfl (pi_list (pv 1)) (pg_name (i := 8) sc__law_due.nd rfl (by first | exact Or.inl rfl | exact Or.inr rfl)) (pss_one (ps_if (pt_cmpR op_gt (pe_callD G__law_borne (hr.mono (by decide)) (by rfl) (pa_cons (pe_ix (k_ixt (K := K) rfl) (pv 8) pe_int (fun _ _ => rfl)) (pa_cons (pe_ix (k_ixt (K := K) rfl) (pv 8) pe_int (fun _ _ => rfl)) (pa_cons (pv 3) pa_nil)))) (pe_ix (k_ixt (K := K) rfl) (pv 8) pe_int (fun _ _ => rfl)) (nomark _)) (pss_one (ps_ret pe_bl)) pss_nil)))
      (pss_one (ps_ret pe_bl)))), ?_⟩
  cases h0
  cases h2
  obtain ⟨hz, hgz⟩ := hp
  have no : ∀ {σ : L2.St} {B' H' : Hp} {D : Ends}, Stp B H B' H' → D.rt = Q → ¬ IsPrices y0 y2 y1 y3 → tRet (tC (.bl false)) D σ H' := fun s e h => c_ret s (es_bl s.bh) fun w y B2 H2 s hy hR => by
    rw [e]
    exact q w y B2 H2 s ⟨fun h => (by rw [hy] at h; cases h), fun z => absurd z h⟩ hR
  refine q_forR (es_lenL x0 (es_var x0 rfl h3)) ⟨by omega, by omega⟩ (fun i σ' H' => ∃ a b c d B', σ' = [some (.int y0), some v1, some (.int y2), some v3, a, b, c, d, none, none] ∧ Stp B H B' H' ∧ PairsTo y0 y2 y3 i)
    (fun H4 e4 => ⟨none, none, none, none, B, rfl, Stp.go x0 e4, pairs0 _ _ _⟩) (fun i σ' H' hi w => ?_) (fun σ' H' w => ?_)
  · obtain ⟨a, b, c, d, B', rfl, s, hP⟩ := w
    have hi' : i < y3.length := by omega
    have hx : y3[i]? = some y3[i] := List.getElem?_eq_getElem hi'
    generalize y3[i] = pr at hx
    have hprl := hgz pr (List.mem_of_getElem? hx)
    have x3 := s.bh
    have hix : ∀ {σ B'' H'}, σ[4]? = some (some (V.int i)) → σ[3]? = some (some v3) → Ex B B'' → Ex B'' H' → EvE eP (tOp (rIxL K) (tVar 3) (tVar 4)) σ B'' H' pr := fun h6 h7 eb x => es_ixL x (es_var x h7 (Enc.up _ eb h3)) (es_varI x h6) (by omega) (by rw [Int.toNat_natCast]; exact hx)
    refine q_setS (E := eT eI) (i := 5) (es_20 x3 (hix rfl rfl s.eb x3)) fun vg g B3 H3 s3 hg hvg => ?_
    cases hg
    replace s := s.trans s3
    clear x3 s3
    have x3 := s.bh
    refine q_when (et_not (et_sB (es_dec (es_call (pr.1, y0, y2) x3 (ea_c x3 (mono_aC (mono_aC mono_aN)) (es_var (E := eT eI) (i := 5) x3 rfl hvg) (ea_c x3 (mono_aC mono_aN) (es_varI x3 rfl) (ea_c x3 mono_aN (es_varI x3 rfl) (ea_n x3)))) (by show pr.1.length ≤ 100; omega))))) (fun hb H5 e5 => ?_) (fun hb H5 e5 => ?_)
    · refine no (s.goH e5) rfl fun hI => ?_
      obtain ⟨k1, k2⟩ := hI.pairs.one i pr hi' hx
      rw [pd_true.mpr k1] at hb
      cases hb
    replace s := s.goH e5
    clear x3
    have x3 := s.bh
    refine q_when (et_or (et_sB (es_isiI x3 (es_21 x3 (hix rfl rfl s.eb x3)) k_ib)) fun _ => et_sT (es_opB x3 (es_21 x3 (hix rfl rfl s.eb x3)) (es_int x3))) (fun hc H6 e6 => ?_) (fun hc H6 e6 => ?_)
    · refine no (s.goH e6) rfl fun hI => ?_
      obtain ⟨k1, k2⟩ := hI.pairs.one i pr hi' hx
      rw [Bool.false_or] at hc
      have := of_decide_eq_true hc
      omega
    have hok : IsGroup y0 y2 pr.1 ∧ 1 ≤ pr.2 := by
      rw [Bool.false_or] at hc
      have := of_decide_eq_false hc
      simp only [Bool.not_eq_false'] at hb
      exact ⟨pd_true.mp hb, by omega⟩
    replace s := s.goH e6
    clear x3
    have x3 := s.bh
    refine c_forL (E := eP) (T := fun ys => ys = y3.take i) ((em_slL x3 (es_var (i := 3) x3 rfl (Enc.up _ s.eb h3)) eo_none (eo_some' (es_varI (i := 4) x3 rfl))).s.imp fun y hy => by rw [hy, cutP_to y3 (by omega) (by omega), Int.toNat_natCast])
      (fun xs B1 j σ' H' => ∃ c d B', σ' = [some (.int y0), some v1, some (.int y2), some v3, some (.int i), some vg, c, d, none, none] ∧ Stp B H B' H' ∧ Ex B1 B' ∧ ∀ k q, k < j → xs[k]? = some q → AgreeP q.1 pr.1)
      (fun xs B1 H1 s4 hT => ⟨_, _, B1, rfl, s.trans s4, Ex.refl _, fun _ _ h => absurd h (Nat.not_lt_zero _)⟩) (fun xs B1 j σ' H' ⟨_, _, _, _, s, eb, _⟩ => eb.trans s.bh) (fun xs B1 j qr v σ' H' hT eb1 hj hv W => ?_) (fun xs B1 σ' H' hT eb1 W => ?_)
    · obtain ⟨c, d, B', rfl, s5, eb5, hA⟩ := W
      subst hT
      have x5 := s5.bh
      have hv' := Enc.up _ eb5 hv
      have hvg' := Enc.up _ (eb1.trans eb5) hvg
      have hjl : j < i := by
        have := (List.getElem?_eq_some_iff.mp hj).1
        rw [List.length_take] at this
        omega
      have hj3 : y3[j]? = some qr := by
        rw [List.getElem?_take_of_lt hjl] at hj
        exact hj
      have hq := hP.one j qr hjl hj3
      have hqz := hgz qr (List.mem_of_getElem? hj3)
      have hq0 : ∀ {σ B'' H''}, σ[6]? = some (some v) → Ex B' B'' → Ex B'' H'' → EvE (eT eI) (tOp (rIxT K) (tVar 6) (tC (.int 0))) σ B'' H'' qr.1 := fun h eb x => es_20 (t := qr) x (es_var (E := eP) x h (Enc.up _ eb hv'))
      refine q_setI (i := 7) (n := (bothN pr.1 qr.1 : Int)) (es_lenL (xs := pr.1.filter fun v => decide (v ∈ qr.1)) x5 ((em_lcT (E := eI) (F := eI) (p := fun v => decide (v ∈ qr.1)) (Tr := fun v y => y = v) x5 (es_var (E := eT eI) (i := 5) x5 rfl hvg') (by omega) (fun v => rfl) (fun v w B2 H2 s2 _ hv => ?_) (fun v w B2 H2 s2 _ hv _ => ?_)).s.imp fun ys h => by
        have h := pair_fun (f := fun v => v) h
        rw [List.map_id'] at h
        exact h)) fun H6 e6 => ?_
      · cases hv
        exact et_sT (es_inT s2.bh (es_varI s2.bh rfl) (hq0 rfl s2.eb s2.bh))
      · cases hv
        exact es_varI s2.bh rfl
      replace s5 := s5.goH e6
      clear x5
      have x5 := s5.bh
      have key := agree_law hok.1.up hq.1.up hok.1.ne
      refine q_when (et_sT (es_eqT x5 (es_var (E := eT eI) (i := 5) x5 rfl hvg') (hq0 rfl (Ex.refl _) x5))) (fun hb H7 e7 => ?_) (fun hb H7 e7 => ?_)
      · exact no (s5.goH e7) rfl fun hI => key.mp (hI.pairs.two i j pr qr hjl hi' hx hj3) (.inl (of_decide_eq_true hb))
      replace s5 := s5.goH e7
      clear x5
      have x5 := s5.bh
      refine s_when (et_and (et_sT (es_opB (g := fun a b => decide (b < a)) x5 (es_varI (i := 7) x5 rfl) (es_int x5))) fun _ => et_and (et_sT (es_opB (g := fun a b => decide (a < b)) x5 (es_varI (i := 7) x5 rfl) (es_lenT x5 (es_var (E := eT eI) (i := 5) x5 rfl hvg')))) fun _ => et_sT (es_opB (g := fun a b => decide (a < b)) x5 (es_varI (i := 7) x5 rfl) (es_lenT x5 (hq0 rfl (Ex.refl _) x5)))) (fun hc H8 e8 => ?_) (fun hc H8 e8 => ⟨_, _, B', rfl, s5.goH e8, eb5, fun k q' hk hkq => ?_⟩)
      · refine no (s5.goH e8) rfl fun hI => key.mp (hI.pairs.two i j pr qr hjl hi' hx hj3) (.inr ?_)
        simp only [Bool.and_eq_true, decide_eq_true_eq] at hc
        omega
      · by_cases e : k = j
        · subst e
          rw [hj] at hkq
          cases hkq
          refine key.mpr fun h => ?_
          rcases h with h | h
          · exact of_decide_eq_false hb h
          · simp only [Bool.and_eq_false_iff, decide_eq_false_iff_not] at hc
            omega
        · exact hA k q' (by omega) hkq
    · obtain ⟨c, d, B', rfl, s5, eb5, hA⟩ := W
      subst hT
      refine ⟨_, _, c, d, B', rfl, s5, pairs_next hP hx hok fun k q' hk hkq => ?_⟩
      refine hA k q' (by rw [List.length_take]; omega) ?_
      rw [List.getElem?_take_of_lt hk]
      exact hkq
  obtain ⟨a, b, c, d, B3, rfl, s, hP⟩ := w
  have hP : PairsTo y0 y2 y3 y3.length := by rw [Int.toNat_natCast] at hP; exact hP
  replace h1 := Enc.up _ s.eb h1
  replace h3 := Enc.up _ s.eb h3
  refine q_forE (E := eR) s.bh ⟨_, ev_var (i := 1) rfl, h1⟩ (fun i σ' H' => ∃ d', σ' = [some (.int y0), some v1, some (.int y2), some v3, a, b, c, d, d', none] ∧ Stp B H B3 H' ∧ ∀ k r, k < i → y1[k]? = some r → borne r y3 ≤ r.2.2)
    (fun H4 e4 => ⟨none, rfl, s.goH e4, fun _ _ h => absurd h (Nat.not_lt_zero _)⟩) (fun i σ' H' ⟨_, _, s, _⟩ => s.bh) (fun i r v σ' H' hi hv w => ?_) (fun σ' H' w => ?_)
  · obtain ⟨d', rfl, s5, hA⟩ := w
    have x5 := s5.bh
    have hbr : borne (r.1, r.2.1, 0) y3 = borne r y3 := rfl
    refine s_when (et_sT (es_opB (g := fun a b => decide (b < a)) x5 (es_call (r.1, r.2.1, y3) x5 (ea_c x5 (mono_aC (mono_aC mono_aN)) (es_30 (t := r) x5 (es_var (E := eR) (i := 8) x5 rfl hv)) (ea_c x5 (mono_aC mono_aN) (es_31 (t := r) x5 (es_var (E := eR) (i := 8) x5 rfl hv)) (ea_c x5 mono_aN (es_var (i := 3) x5 rfl h3) (ea_n x5)))) (by show y3.length ≤ 100; omega)) (es_32 x5 (es_var (E := eR) (i := 8) x5 rfl hv)))) (fun hb H6 e6 => ?_) (fun hb H6 e6 => ⟨_, rfl, s5.goH e6, fun k z' hk hkz => ?_⟩)
    · refine no (s5.goH e6) rfl fun hI => ?_
      have hb := of_decide_eq_true hb
      have := hI.left r (List.mem_of_getElem? hi)
      dsimp only at hb
      omega
    · by_cases e : k = i
      · subst e
        rw [hi] at hkz
        cases hkz
        have := of_decide_eq_false hb
        dsimp only at this
        omega
      · exact hA k z' (by omega) hkz
  · obtain ⟨d', rfl, s5, hA⟩ := w
    refine c_ret s5 (es_bl s5.bh) fun w y B2 H2 s hy hR => q w y B2 H2 s ⟨fun _ => ⟨hP, fun r hr => ?_⟩, fun _ => hy⟩ hR
    obtain ⟨k, hk⟩ := List.mem_iff_getElem?.mp hr
    exact hA k r (List.getElem?_eq_some_iff.mp hk).1 hk
end
end RR
namespace RR
open PySem L2 Evl PyProof.Rows
section
variable {P : Program} {w : World} {K : PySem.W.Frag} {mg : Str → Option Value} {base : Heap}
theorem okr_ends {m s d : Int} (hm : 2 ≤ m) (h0 : 0 ≤ s) (h1 : s < m) (h2 : 0 ≤ d) (h3 : d < m - 1) : 0 ≤ (s + 1 + d) % m ∧ (s + 1 + d) % m < m ∧ s ≠ (s + 1 + d) % m := by
  have e : s + 1 + d = s + (1 + d) := by omega
  rw [e, emod_add_lt h0 h1 (by omega) (by omega)]
  split <;> omega

theorem borne_nn (r : Road) : ∀ {ps : List Price}, OkP ps → 0 ≤ borne r ps
  | [], _ => by rw [borne_nil]; omega
  | p :: ps, h => by
    have h1 := borne_nn r (ps := ps) fun q hq => h q (List.mem_cons_of_mem _ hq)
    have h2 := h p (List.mem_cons_self ..)
    have e : borne r (p :: ps) = (if comesIn r p.1 then p.2 else 0) + borne r ps := by
      unfold borne
      rw [List.map_cons, List.sum_cons]
    rw [e]
    split <;> omega

abbrev spLaw (K : PySem.W.Frag) : Sp := Spec (ar1 (eScr K)) (fun ns => ns.length ≤ 63 ∧ ∀ n ∈ ns, Bd n) eB (fun _ y => y = true)
theorem d_law {f : Addr} {fd : FuncData} (F0 : Fun K "law" "law" s_law f fd) (T : Txt K mg) (G__law_cell_at : DefOk P w K mg base 1 "_law_cell_at" ["_law_script", "_law_k"] (sp_cell K)) (G__law_borne : DefOk P w K mg base 1 "_law_borne" ["_law_start", "_law_end", "_law_prices"] sp_borne) (G__law_pairs : DefOk P w K mg base 2 "_law_pairs" ["_law_script", "_law_many", "_law_root"] (sp_pairs K)) (G__law_spoilt : DefOk P w K mg base 1 "_law_spoilt" ["_law_prices", "_law_cell", "_law_many", "_law_root"] sp_spoilt) (G_are_prices : DefOk P w K mg base 5 "are_prices" ["many", "roads", "root", "prices"] sp_prices) (G__law_due : DefOk P w K mg base 3 "_law_due" ["_law_many", "_law_roads", "_law_root", "_law_prices"] sp_due) : FnOk P w K mg base CX0 6 f fd ["_law_script"] (spLaw K) := by
  refine mk_fn (k := 5) F0 sc_law (fun _ => (lenC lenN)) ?_
  intro cdv A0 outer s E i B H vs Q hr x0 hA hp q
  obtain ⟨v0, y0, _, rfl, rfl, h0, rfl⟩ := hA
  refine ⟨_, (pss_cons (ps_set (i := 1) sc_law.nd rfl (by first | exact Or.inl rfl | exact Or.inr rfl) (pe_op op_add pe_int (pe_op op_mod (pe_callD G__law_cell_at (hr.mono (by decide)) (by rfl) (pa_cons (pv 0) (pa_cons pe_int pa_nil))) pe_int)))
      (pss_cons (ps_if (pt_cmpR op_eq (pe_op op_mod (pe_op op_fdiv (pe_callD G__law_cell_at (hr.mono (by decide)) (by rfl) (pa_cons (pv 0) (pa_cons pe_int pa_nil))) pe_int) pe_int) pe_int (nomark _)) (pss_one (ps_set (i := 1) sc_law.nd rfl (by first | exact Or.inl rfl | exact Or.inr rfl) (pe_op op_add pe_int (pe_op op_mod (pe_op op_fdiv (pe_callD G__law_cell_at (hr.mono (by decide)) (by rfl) (pa_cons (pv 0) (pa_cons pe_int pa_nil))) pe_int) pe_int)))) pss_nil)
      (pss_cons (ps_set (i := 2) sc_law.nd rfl (by first | exact Or.inl rfl | exact Or.inr rfl) (pe_op op_mod (pe_callD G__law_cell_at (hr.mono (by decide)) (by rfl) (pa_cons (pv 0) (pa_cons pe_int pa_nil))) (pv 1)))
      (pss_cons (ps_set (i := 3) sc_law.nd rfl (by first | exact Or.inl rfl | exact Or.inr rfl) (pe_callD G__law_pairs (hr.mono (by decide)) (by rfl) (pa_cons (pv 0) (pa_cons (pv 1) (pa_cons (pv 2) pa_nil)))))
      (pss_cons (ps_set (i := 4) sc_law.nd rfl (by first | exact Or.inl rfl | exact Or.inr rfl) (pe_lst pa_nil))
      (pss_cons (ps_for PassesOwn.never rfl (pi_list (pe_slice (k_sll (K := K) rfl) (pv 0) (po_some pe_int) (po_some pe_int))) (pg_name (i := 5) sc_law.nd rfl (by first | exact Or.inl rfl | exact Or.inr rfl)) (pss_cons (ps_set (i := 6) sc_law.nd rfl (by first | exact Or.inl rfl | exact Or.inr rfl) (pe_op op_mod (pv 5) (pv 1)))
      (pss_cons (ps_set (i := 7) sc_law.nd rfl (by first | exact Or.inl rfl | exact Or.inr rfl) (pe_op op_mod (pe_op op_add (pe_op op_add (pv 6) pe_int) (pe_op op_mod (pe_op op_fdiv (pv 5) (pv 1)) (pe_op op_sub (pv 1) pe_int))) (pv 1)))
      (pss_cons (ps_set (i := 8) sc_law.nd rfl (by first | exact Or.inl rfl | exact Or.inr rfl) (pe_ix (k_ixl (K := K) rfl) (pe_lst (pa_cons pe_int (pa_cons pe_int (pa_cons pe_int (pa_cons pe_int pa_nil))))) (pe_op op_mod (pe_op op_fdiv (pe_op op_fdiv (pv 5) (pv 1)) (pv 1)) pe_int) (fun _ _ => rfl)))
      (pss_cons (ps_if (pt_cmpR op_eq (pe_op op_mod (pe_callD G__law_cell_at (hr.mono (by decide)) (by rfl) (pa_cons (pv 0) (pa_cons pe_int pa_nil))) pe_int) pe_int (nomark _)) (pss_one (ps_set (i := 8) sc_law.nd rfl (by first | exact Or.inl rfl | exact Or.inr rfl) (pe_callB (cl_max2 rfl) (by rfl) T.b_max (by decide +kernel) (pa_cons (pe_un un_neg pe_int) (pa_cons (pe_op op_sub pe_int (pe_callD G__law_borne (hr.mono (by decide)) (by rfl) (pa_cons (pv 6) (pa_cons (pv 7) (pa_cons (pv 3) pa_nil))))) pa_nil))))) pss_nil)
      (pss_cons (ps_set (i := 9) sc_law.nd rfl (by first | exact Or.inl rfl | exact Or.inr rfl) (pe_op op_add (pe_callD G__law_borne (hr.mono (by decide)) (by rfl) (pa_cons (pv 6) (pa_cons (pv 7) (pa_cons (pv 3) pa_nil)))) (pv 8)))
      (pss_one (ps_expr (pe_bm PySem.F.plainAttrs_list PySem.F.slot_list_append PySem.F.type_list_append mt_append (pv 4) (pa_cons (pe_tup (pa_cons (pv 6) (pa_cons (pv 7) (pa_cons (pe_callB (cl_min2 rfl) (by rfl) T.b_min (by decide +kernel) (pa_cons (pv 9) (pa_cons (pe_op op_sub (pe_op op_pow pe_int pe_int) pe_int) pa_nil))) pa_nil)))) pa_nil))))))))))
      (pss_cut (ps_if (pw_and (pt_cmpR op_eq (pe_op op_mod (pe_callD G__law_cell_at (hr.mono (by decide)) (by rfl) (pa_cons (pv 0) (pa_cons pe_int pa_nil))) pe_int) pe_int (nomark _)) (pw_and1 (pt_cmpR op_gt (pe_callB (k_len (K := K) rfl) (by rfl) T.b_len (by decide +kernel) (pa_cons (pv 3) pa_nil)) pe_int (nomark _)))).pt (pss_cons (ps_set (i := 5) sc_law.nd rfl (by first | exact Or.inl rfl | exact Or.inr rfl) (pe_callD G__law_cell_at (hr.mono (by decide)) (by rfl) (pa_cons (pv 0) (pa_cons pe_int pa_nil))))
      (pss_one (ps_set (i := 3) sc_law.nd rfl (by first | exact Or.inl rfl | exact Or.inr rfl) (pe_callD G__law_spoilt (hr.mono (by decide)) (by rfl) (pa_cons (pv 3) (pa_cons (pv 5) (pa_cons (pv 1) (pa_cons (pv 2) pa_nil)))))))) pss_nil)
      (pss_cons (ps_set (i := 10) sc_law.nd rfl (by first | exact Or.inl rfl | exact Or.inr rfl) (pe_lst (pa_cons (pe_callTy (k_list (K := K) rfl) (by rfl) T.b_list (by decide +kernel) (pa_cons (pv 4) pa_nil)) (pa_cons (pe_callTy (k_list (K := K) rfl) (by rfl) T.b_list (by decide +kernel) (pa_cons (pv 3) pa_nil)) pa_nil))))
      (pss_cons (ps_set (i := 11) sc_law.nd rfl (by first | exact Or.inl rfl | exact Or.inr rfl) (pe_callD G_are_prices (hr.mono (by decide)) (by rfl) (pa_cons (pv 1) (pa_cons (pe_ix (k_ixl (K := K) rfl) (pv 10) pe_int (fun _ _ => rfl)) (pa_cons (pv 2) (pa_cons (pe_ix (k_ixl (K := K) rfl) (pv 10) pe_int (fun _ _ => rfl)) pa_nil))))))
      (pss_cons (ps_if (pt_cmpR (k_neD hr.units (K := K) rfl) (pv 10) (pe_lst (pa_cons (pv 4) (pa_cons (pv 3) pa_nil))) (nomark _)) (pss_one (ps_ret pe_bl)) pss_nil)
      (pss_one (ps_ret (pe_and (pe_callB (k_isi (K := K) rfl) (by rfl) T.b_isinstance (by decide +kernel) (pa_cons (pv 11) (pa_cons (pe_bltn (v := .ty "bool") (u := .type "bool") (by rfl) T.b_bool (by decide +kernel) rfl) pa_nil))) (pe_one (pe_cmpR op_eq (pv 11) (pe_callD G__law_due (hr.mono (by decide)) (by rfl) (pa_cons (pv 1) (pa_cons (pv 4) (pa_cons (pv 2) (pa_cons (pv 3) pa_nil))))) (nomark _)))))))))))))))), ?_⟩
  obtain ⟨hlen, hbd⟩ := hp
  refine q_setI (i := 1) (es_opI x0 (es_int x0) (es_opC x0 (es_call ((y0, 0)) x0 (ea_c x0 (mono_aC mono_aN) (es_var x0 rfl h0) (ea_c x0 mono_aN (es_int x0) (ea_n x0))) (by show (0 : Int) ≤ _; omega)) (es_int x0) (by first | (show (0 : Int) < _; omega) | (show (0 : Int) < _; decide +kernel)))) fun H1 e1 => ?_
  have x1 := x0.trans e1
  refine q_ifSetI (T := fun m => 2 ≤ m ∧ m ≤ 12) (et_sT (es_eqI x1 (es_opC x1 (es_opC x1 (es_call ((y0, 0)) x1 (ea_c x1 (mono_aC mono_aN) (es_var x1 rfl h0) (ea_c x1 mono_aN (es_int x1) (ea_n x1))) (by show (0 : Int) ≤ _; omega)) (es_int x1) (⟨by omega, by omega⟩)) (es_int x1) (by first | (show (0 : Int) < _; omega) | (show (0 : Int) < _; decide +kernel))) (es_int x1))) x1 (fun hb => EvS.imp (es_opI x1 (es_int x1) (es_opC x1 (es_opC x1 (es_call ((y0, 0)) x1 (ea_c x1 (mono_aC mono_aN) (es_var x1 rfl h0) (ea_c x1 mono_aN (es_int x1) (ea_n x1))) (by show (0 : Int) ≤ _; omega)) (es_int x1) (⟨by omega, by omega⟩)) (es_int x1) (by first | (show (0 : Int) < _; omega) | (show (0 : Int) < _; decide +kernel)))) fun y hy => ?_) (fun hb => ⟨_, rfl, ?_⟩) fun m B2 H2 s2 hm => ?_
  · rw [hy]
    omega
  · omega
  replace s2 := (Stp.go x0 e1).trans s2
  replace h0 := Enc.up _ s2.eb h0
  have x2 := s2.bh
  have hmp : 0 < m := by omega
  refine q_setI (i := 2) (es_opC x2 (es_call ((y0, 1)) x2 (ea_c x2 (mono_aC mono_aN) (es_var x2 rfl h0) (ea_c x2 mono_aN (es_int x2) (ea_n x2))) (by show (0 : Int) ≤ _; omega)) (es_varI (i := 1) x2 rfl) (by show (0 : Int) < _; omega)) fun H3 e3 => ?_
  have hro0 := Int.emod_nonneg (cellM y0 1) (show m ≠ 0 by omega)
  have hro1 := Int.emod_lt_of_pos (cellM y0 1) hmp
  generalize cellM y0 1 % m = ro at hro0 hro1
  replace s2 := s2.goH e3
  clear x2
  have x2 := s2.bh
  refine q_setS (es_call (y0, m, ro) x2 (ea_c x2 (mono_aC (mono_aC mono_aN)) (es_var x2 rfl h0) (ea_c x2 (mono_aC mono_aN) (es_varI x2 rfl) (ea_c x2 mono_aN (es_varI x2 rfl) (ea_n x2)))) ⟨hbd, hm.1, hm.2⟩) fun vp ps B3 H4 s3 hps hvp => ?_
  obtain ⟨hpl, hpo⟩ := hps
  replace s2 := s2.trans s3
  replace h0 := Enc.up _ s3.eb h0
  clear x2
  have x2 := s2.bh
  refine q_setM (i := 4) (em_nil (E := eR) x2) fun lr vs xs B4 H5 s4 nl bl hl hx hR => ?_
  cases hx
  cases hR
  have eh4 := s2.eh
  replace s2 := s2.trans s4
  have cr : Cell H B4 H5 lr (.lst []) := ⟨fresh_back eh4 nl, bl, hl⟩
  replace h0 := Enc.up _ s4.eb h0
  replace hvp := Enc.up _ s4.eb hvp
  clear x2
  have x2 := s2.bh
  refine q_forL (E := eI) (T := fun ns => ns = cutP y0 (some 16) (some 28)) (em_slS x2 (es_var x2 rfl h0) (eo_some' (es_int x2)) (eo_some' (es_int x2))).s
    (fun ns B5 i σ' H' => ∃ a b c d e B' vs rs, σ' = [some v0, some (.int m), some (.int ro), some vp, some (.ref lr), a, b, c, d, e, none, none] ∧ Stp B H B' H' ∧ Ex B5 B' ∧ Cell H B' H' lr (.lst vs) ∧ Paired (eR.R B') vs rs ∧ (∀ r ∈ rs, OkR m r) ∧ rs.length ≤ i)
    (fun ns B5 H6 s5 hT => ⟨none, none, none, none, none, B5, _, _, rfl, s2.trans s5, Ex.refl _, cr.up s5, .nil, fun r hr => absurd hr (by simp), Nat.le_refl _⟩)
    (fun ns B5 i σ' H' ⟨_, _, _, _, _, _, _, _, _, s, eb, _⟩ => eb.trans s.bh) (fun ns B5 i n v σ' H' hT eb5 hi hv w => ?_) (fun ns B5 σ' H' hT eb5 w => ?_)
  · obtain ⟨a, b, c, d, e, B', vs, rs, rfl, s6, eb, cr6, hRr, hok, hrl⟩ := w
    cases hv
    subst hT
    have hi12 : i < 12 := by
      have q1 := (List.getElem?_eq_some_iff.mp hi).1
      have q2 := cutP_seg y0 (a := 16) (b := 28) (by decide) (by decide)
      omega
    have g1 := Int.emod_nonneg n (show m ≠ 0 by omega)
    have g2 := Int.emod_lt_of_pos n hmp
    have g3 := Int.emod_nonneg (n / m) (show m - 1 ≠ 0 by omega)
    have g4 := Int.emod_lt_of_pos (n / m) (show 0 < m - 1 by omega)
    have g5 := okr_ends hm.1 g1 g2 g3 g4
    have x6 := s6.bh
    refine q_setI (i := 6) (es_opC x6 (es_varI x6 rfl) (es_varI x6 rfl) (by first | (show (0 : Int) < _; omega) | (show (0 : Int) < _; decide +kernel))) fun H7 e7 => ?_
    replace s6 := s6.goH e7
    replace cr6 := cr6.go e7
    clear x6
    have x6 := s6.bh
    refine q_setI (i := 7) (es_opC x6 (es_opI x6 (es_opI x6 (es_varI x6 rfl) (es_int x6)) (es_opC x6 (es_opC x6 (es_varI x6 rfl) (es_varI x6 rfl) (⟨by omega, by omega⟩)) (es_opI x6 (es_varI x6 rfl) (es_int x6)) (by first | (show (0 : Int) < _; omega) | (show (0 : Int) < _; decide +kernel)))) (es_varI x6 rfl) (by first | (show (0 : Int) < _; omega) | (show (0 : Int) < _; decide +kernel))) fun H8 e8 => ?_
    replace s6 := s6.goH e8
    replace cr6 := cr6.go e8
    generalize (n % m + 1 + n / m % (m - 1)) % m = en at g5
    generalize n % m = sn at g5 g1 g2
    clear x6
    have x6 := s6.bh
    have h0' := Enc.up _ (eb5.trans eb) h0
    have hvp' := Enc.up _ (eb5.trans eb) hvp
    have hbn : 0 ≤ borne (sn, en, 0) ps := borne_nn _ hpo
    refine q_setS (E := eI) (i := 8) (es_ixLM x6 (em_lst (E := eI) (xs := [0, 0, 1, 3]) (ea_cons' x6 (es_int x6) (ea_cons' x6 (es_int x6) (ea_cons' x6 (es_int x6) (ea_cons' x6 (es_int x6) (ea_nil' x6))))) (by show 4 ≤ 100000; decide)).s (es_opC x6 (es_opC x6 (es_opC x6 (es_varI x6 rfl) (es_varI x6 rfl) (⟨by omega, by omega⟩)) (es_varI x6 rfl) (⟨by omega, by omega⟩)) (es_int x6) (by first | (show (0 : Int) < _; omega) | (show (0 : Int) < _; decide +kernel))) (Int.emod_nonneg _ (by decide)) (by show _ < (4 : Int); exact Int.emod_lt_of_pos _ (by decide))) fun vm mo B9 H9 s9 hmo hvm => ?_
    cases hvm
    have hmo : 0 ≤ borne (sn, en, 0) ps + mo := by
      simp only [List.mem_cons, List.not_mem_nil, or_false] at hmo
      omega
    replace s6 := s6.trans s9
    replace h0' := Enc.up _ s9.eb h0'
    replace hvp' := Enc.up _ s9.eb hvp'
    replace eb := eb.trans s9.eb
    replace hRr := Enc.ups _ s9.eb hRr
    replace cr6 := cr6.up s9
    clear x6 s9
    have x6 := s6.bh
    refine q_ifSetI (i := 8) (T := fun z => 0 ≤ borne (sn, en, 0) ps + z) (et_sT (es_eqI x6 (es_opC x6 (es_call ((y0, 3)) x6 (ea_c x6 (mono_aC mono_aN) (es_var x6 rfl h0') (ea_c x6 mono_aN (es_int x6) (ea_n x6))) (by show (0 : Int) ≤ _; omega)) (es_int x6) (by first | (show (0 : Int) < _; omega) | (show (0 : Int) < _; decide +kernel))) (es_int x6))) x6 (fun hb => (es_max2 x6 (es_neg (es_int x6)) (es_opI x6 (es_int x6) (es_call (sn, en, ps) x6 (ea_c x6 (mono_aC (mono_aC mono_aN)) (es_varI (i := 6) x6 rfl) (ea_c x6 (mono_aC mono_aN) (es_varI (i := 7) x6 rfl) (ea_c x6 mono_aN (es_var (i := 3) x6 rfl hvp') (ea_n x6)))) (by show ps.length ≤ 100; omega)))).imp fun y hy => ?_) (fun hb => ⟨_, rfl, hmo⟩) fun mo2 B10 H10 s10 hmo2 => ?_
    · rw [hy]
      dsimp only
      split <;> omega
    replace s6 := s6.trans s10
    replace h0' := Enc.up _ s10.eb h0'
    replace hvp' := Enc.up _ s10.eb hvp'
    replace eb := eb.trans s10.eb
    replace hRr := Enc.ups _ s10.eb hRr
    replace cr6 := cr6.up s10
    clear x6 s10
    have x6 := s6.bh
    refine q_setI (i := 9) (n := borne (sn, en, 0) ps + mo2) (es_opI x6 (es_call (sn, en, ps) x6 (ea_c x6 (mono_aC (mono_aC mono_aN)) (es_varI (i := 6) x6 rfl) (ea_c x6 (mono_aC mono_aN) (es_varI (i := 7) x6 rfl) (ea_c x6 mono_aN (es_var (i := 3) x6 rfl hvp') (ea_n x6)))) (by show ps.length ≤ 100; omega)) (es_varI (i := 8) x6 rfl)) fun H11 e11 => ?_
    generalize borne (sn, en, 0) ps + mo2 = cost at hmo2
    replace s6 := s6.goH e11
    replace cr6 := cr6.go e11
    clear x6
    have x6 := s6.bh
    refine c_app (i := 4) cr6 s6 rfl (by rw [pl hRr]; omega) (es_tup3 (E := eI) (F := eI) (G := eI) x6 (es_varI (i := 6) x6 rfl) (es_varI (i := 7) x6 rfl) (es_min2 x6 (es_varI (i := 9) x6 rfl) (es_opI x6 (es_opC x6 (es_int x6) (es_int x6) (⟨by decide, by decide, by decide⟩)) (es_int x6)))) fun vr r B12 H12 s12 eb12 cr12 oth12 hr hvr => ?_
    refine ⟨_, _, _, _, _, B12, _, _, rfl, s12, eb.trans eb12, cr12, Paired.snoc (Enc.ups _ eb12 hRr) hvr, fun z hz => ?_, ?_⟩
    · rcases List.mem_append.mp hz with hz | hz
      · exact hok z hz
      · rw [List.mem_singleton.mp hz]
        obtain ⟨k1, k2, k3⟩ := hr
        have h3 : (10 : Int) ^ (40 : Int).toNat = 10000000000000000000000000000000000000000 := by decide +kernel
        rw [h3] at k3
        have k4 : 0 ≤ r.2.2 ∧ r.2.2 < 10000000000000000000000000000000000000000 := by
          rw [k3]
          split <;> omega
        exact ⟨by rw [k1]; exact g1, by rw [k1]; exact g2, by rw [k2]; exact g5.1, by rw [k2]; exact g5.2.1, by rw [k1, k2]; exact g5.2.2, k4.1, k4.2⟩
    · rw [List.length_append, List.length_singleton]
      omega
  obtain ⟨a, b, c, d, e, B', vs, rs, rfl, s6, eb, cr6, hRr, hok, hrl⟩ := w
  subst hT
  have hrl : rs.length ≤ 12 := Nat.le_trans hrl (cutP_seg y0 (a := 16) (b := 28) (by decide) (by decide))
  obtain ⟨B7, s7, eb7, hrs, _⟩ := cell_pub (E := eR) cr6 s6 hRr
  replace eb := (eb5.trans eb).trans eb7
  replace h0 := Enc.up _ eb h0
  replace hvp := Enc.up _ eb hvp
  clear s6 cr6 hRr eb7
  have x7 := s7.bh
  refine q_cut (M := fun σ' H' => ∃ a' B' vp' ps', σ' = [some v0, some (.int m), some (.int ro), some vp', some (.ref lr), a', b, c, d, e, none, none] ∧ Stp B H B' H' ∧ Ex B7 B' ∧ (eL eP).R B' vp' ps' ∧ OkQ ps') ?_ ?_
  · refine s_when (et_and (et_sT (es_eqI x7 (es_opC x7 (es_call ((y0, 4)) x7 (ea_c x7 (mono_aC mono_aN) (es_var x7 rfl h0) (ea_c x7 mono_aN (es_int x7) (ea_n x7))) (by show (0 : Int) ≤ _; omega)) (es_int x7) (by first | (show (0 : Int) < _; omega) | (show (0 : Int) < _; decide +kernel))) (es_int x7))) fun _ => et_sT (es_opB (g := fun a b => decide (b < a)) x7 (es_lenL x7 (es_var (E := eL eP) (i := 3) x7 rfl hvp)) (es_int x7))) (fun hb H8 e8 => ?_) (fun hb H8 e8 => ⟨a, B7, vp, ps, rfl, s7.goH e8, Ex.refl _, hvp, by omega, fun p hp => ?_⟩)
    · replace s7 := s7.goH e8
      clear x7
      have x7 := s7.bh
      refine q_setI (i := 5) (es_call ((y0, 5)) x7 (ea_c x7 (mono_aC mono_aN) (es_var x7 rfl h0) (ea_c x7 mono_aN (es_int x7) (ea_n x7))) (by show (0 : Int) ≤ _; omega)) fun H9 e9 => ?_
      replace s7 := s7.goH e9
      clear x7
      have x7 := s7.bh
      have hps0 : ps ≠ [] := by
        rintro rfl
        simp at hb
      exact (es_call (ps, cellM y0 5, m, ro) x7 (ea_c x7 (mono_aC (mono_aC (mono_aC mono_aN))) (es_var (i := 3) x7 rfl hvp) (ea_c x7 (mono_aC (mono_aC mono_aN)) (es_varI (i := 5) x7 rfl) (ea_c x7 (mono_aC mono_aN) (es_varI (i := 1) x7 rfl) (ea_c x7 mono_aN (es_varI (i := 2) x7 rfl) (ea_n x7))))) ⟨hps0, hpl, hpo, hm.1, hm.2⟩) _ (Ex.refl _) _ fun v x B8 H10 s8 hS hR => ⟨_, B8, v, x, rfl, s7.trans s8, s8.eb, hR, hS⟩
    · have := (hpo p hp).2.1
      omega
  clear hpo hpl hvp x7
  rintro σ' H' ⟨a', B8, vp, ps, rfl, s8, eb8, hvp, hpl, hpg⟩
  replace hrs := Enc.up _ eb8 hrs
  clear s7
  have x8 := s8.bh
  refine q_setS (E := eL2 (eL eR) (eL eP)) (i := 10) (es_lst2 x8 (em_listL x8 (es_var (i := 4) x8 rfl hrs)).s (em_listL x8 (es_var (i := 3) x8 rfl hvp)).s) fun vh hd B9 H9 s9 hh hvh => ?_
  cases hh
  replace s8 := s8.trans s9
  replace hrs := Enc.up _ s9.eb hrs
  replace hvp := Enc.up _ s9.eb hvp
  clear x8 s9
  have x8 := s8.bh
  have hn : Net m rs := ⟨by omega, hm.2, by omega, hok⟩
  refine q_setB (i := 11) (es_dec (es_call (m, rs, ro, ps) x8 (ea_c x8 (mono_aC (mono_aC (mono_aC mono_aN))) (es_varI (i := 1) x8 rfl) (ea_c x8 (mono_aC (mono_aC mono_aN)) (es_l20 (t := (rs, ps)) x8 (es_var (E := eL2 (eL eR) (eL eP)) (i := 10) x8 rfl hvh)) (ea_c x8 (mono_aC mono_aN) (es_varI (i := 2) x8 rfl) (ea_c x8 mono_aN (es_l21 (t := (rs, ps)) x8 (es_var (E := eL2 (eL eR) (eL eP)) (i := 10) x8 rfl hvh)) (ea_n x8))))) ⟨hn, hro0, hro1, by show ps.length ≤ 100; omega, fun p hp => by have := hpg p hp; omega⟩)) fun H10 e10 => ?_
  replace s8 := s8.goH e10
  clear x8
  have x8 := s8.bh
  refine q_when (et_sT (es_neSame (deL2 (deL deR) (deL (de2 (deT deI) deI))) (by decide) x8 (es_var (i := 10) x8 rfl hvh) (es_lst2 x8 (es_var (i := 4) x8 rfl hrs) (es_var (i := 3) x8 rfl hvp)))) (fun hb => by cases hb) (fun _ H11 e11 => ?_)
  replace s8 := s8.goH e11
  clear x8
  have x8 := s8.bh
  refine c_ret s8 (es_andV x8 (es_isiB x8 (es_var (E := eB) (i := 11) x8 rfl rfl) k_bb) fun _ => es_eqB x8 (es_var (E := eB) (i := 11) x8 rfl rfl) (es_dec (es_call (m, rs, ro, ps) x8 (ea_c x8 (mono_aC (mono_aC (mono_aC mono_aN))) (es_varI (i := 1) x8 rfl) (ea_c x8 (mono_aC (mono_aC mono_aN)) (es_var (i := 4) x8 rfl hrs) (ea_c x8 (mono_aC mono_aN) (es_varI (i := 2) x8 rfl) (ea_c x8 mono_aN (es_var (i := 3) x8 rfl hvp) (ea_n x8))))) ⟨hpl, hpg⟩))) fun w y B2 H2 s hy hR => q w y B2 H2 s ?_ hR
  rw [hy]
  simp
end
theorem all_mk {l : PySem.W.OpenLaw} {w : World} {K : PySem.W.Frag} {h : Heap} {mg : Str → Option Value} {fa f0 f1 f2 f3 f4 f5 f6 f7 f8 f9 f10 f11 f12 f13 f14 f15 f16 f17 f18 : Addr} (X : K.In h) (G : h.Ns mainGlobals mg) (hfa : mg "law" = some (.ref fa))
    {od0 an0 od1 an1 od2 an2 od3 an3 od4 an4 od5 an5 od6 an6 od7 an7 od8 an8 od9 an9 od10 an10 od11 an11 od12 an12 od13 an13 od14 an14 od15 an15 od16 an16 od17 an17 od18 an18 : Option Addr} {sl0 sl1 sl2 sl3 sl4 sl5 sl6 sl7 sl8 sl9 sl10 sl11 sl12 sl13 sl14 sl15 sl16 sl17 sl18 : Array (Option Value)} {oc0 kV0 dc0 pm0 cd0 ct0 oc1 kV1 dc1 pm1 cd1 ct1 oc2 kV2 dc2 pm2 cd2 ct2 oc3 kV3 dc3 pm3 cd3 ct3 oc4 kV4 dc4 pm4 cd4 ct4 oc5 kV5 dc5 pm5 cd5 ct5 oc6 kV6 dc6 pm6 cd6 ct6 oc7 kV7 dc7 pm7 cd7 ct7 oc8 kV8 dc8 pm8 cd8 ct8 oc9 kV9 dc9 pm9 cd9 ct9 oc10 kV10 dc10 pm10 cd10 ct10 oc11 kV11 dc11 pm11 cd11 ct11 oc12 kV12 dc12 pm12 cd12 ct12 oc13 kV13 dc13 pm13 cd13 ct13 oc14 kV14 dc14 pm14 cd14 ct14 oc15 kV15 dc15 pm15 cd15 ct15 oc16 kV16 dc16 pm16 cd16 ct16 oc17 kV17 dc17 pm17 cd17 ct17 oc18 kV18 dc18 pm18 cd18 ct18 : Value}
    (a0 : PySem.W.nsIn K mainGlobals "_law_cell_at" = some (some (.ref f0))) (l0 : K.lookup f0 = some ⟨oc0, od0, .func (PySem.W.fnOf "_law_cell_at" "_law_cell_at" (defArgs s__law_cell_at) (defBody s__law_cell_at) (defScope s__law_cell_at) .none kV0 dc0 pm0 an0 cd0 ct0), sl0⟩) (c0 : PySem.W.codeIn K cd0 "_law_cell_at" = true) (k0 : PySem.W.keepIn K (.ref f0) = true)
    (a1 : PySem.W.nsIn K mainGlobals "_law_mixed" = some (some (.ref f1))) (l1 : K.lookup f1 = some ⟨oc1, od1, .func (PySem.W.fnOf "_law_mixed" "_law_mixed" (defArgs s__law_mixed) (defBody s__law_mixed) (defScope s__law_mixed) .none kV1 dc1 pm1 an1 cd1 ct1), sl1⟩) (c1 : PySem.W.codeIn K cd1 "_law_mixed" = true) (k1 : PySem.W.keepIn K (.ref f1) = true)
    (a2 : PySem.W.nsIn K mainGlobals "is_whole" = some (some (.ref f2))) (l2 : K.lookup f2 = some ⟨oc2, od2, .func (PySem.W.fnOf "is_whole" "is_whole" (defArgs s_is_whole) (defBody s_is_whole) (defScope s_is_whole) .none kV2 dc2 pm2 an2 cd2 ct2), sl2⟩) (c2 : PySem.W.codeIn K cd2 "is_whole" = true) (k2 : PySem.W.keepIn K (.ref f2) = true)
    (a3 : PySem.W.nsIn K mainGlobals "is_place" = some (some (.ref f3))) (l3 : K.lookup f3 = some ⟨oc3, od3, .func (PySem.W.fnOf "is_place" "is_place" (defArgs s_is_place) (defBody s_is_place) (defScope s_is_place) .none kV3 dc3 pm3 an3 cd3 ct3), sl3⟩) (c3 : PySem.W.codeIn K cd3 "is_place" = true) (k3 : PySem.W.keepIn K (.ref f3) = true)
    (a4 : PySem.W.nsIn K mainGlobals "is_road" = some (some (.ref f4))) (l4 : K.lookup f4 = some ⟨oc4, od4, .func (PySem.W.fnOf "is_road" "is_road" (defArgs s_is_road) (defBody s_is_road) (defScope s_is_road) .none kV4 dc4 pm4 an4 cd4 ct4), sl4⟩) (c4 : PySem.W.codeIn K cd4 "is_road" = true) (k4 : PySem.W.keepIn K (.ref f4) = true)
    (a5 : PySem.W.nsIn K mainGlobals "checked" = some (some (.ref f5))) (l5 : K.lookup f5 = some ⟨oc5, od5, .func (PySem.W.fnOf "checked" "checked" (defArgs s_checked) (defBody s_checked) (defScope s_checked) .none kV5 dc5 pm5 an5 cd5 ct5), sl5⟩) (c5 : PySem.W.codeIn K cd5 "checked" = true) (k5 : PySem.W.keepIn K (.ref f5) = true)
    (a6 : PySem.W.nsIn K mainGlobals "need_place" = some (some (.ref f6))) (l6 : K.lookup f6 = some ⟨oc6, od6, .func (PySem.W.fnOf "need_place" "need_place" (defArgs s_need_place) (defBody s_need_place) (defScope s_need_place) .none kV6 dc6 pm6 an6 cd6 ct6), sl6⟩) (c6 : PySem.W.codeIn K cd6 "need_place" = true) (k6 : PySem.W.keepIn K (.ref f6) = true)
    (a7 : PySem.W.nsIn K mainGlobals "into" = some (some (.ref f7))) (l7 : K.lookup f7 = some ⟨oc7, od7, .func (PySem.W.fnOf "into" "into" (defArgs s_into) (defBody s_into) (defScope s_into) .none kV7 dc7 pm7 an7 cd7 ct7), sl7⟩) (c7 : PySem.W.codeIn K cd7 "into" = true) (k7 : PySem.W.keepIn K (.ref f7) = true)
    (a8 : PySem.W.nsIn K mainGlobals "left_over" = some (some (.ref f8))) (l8 : K.lookup f8 = some ⟨oc8, od8, .func (PySem.W.fnOf "left_over" "left_over" (defArgs s_left_over) (defBody s_left_over) (defScope s_left_over) .none kV8 dc8 pm8 an8 cd8 ct8), sl8⟩) (c8 : PySem.W.codeIn K cd8 "left_over" = true) (k8 : PySem.W.keepIn K (.ref f8) = true)
    (a9 : PySem.W.nsIn K mainGlobals "is_group" = some (some (.ref f9))) (l9 : K.lookup f9 = some ⟨oc9, od9, .func (PySem.W.fnOf "is_group" "is_group" (defArgs s_is_group) (defBody s_is_group) (defScope s_is_group) .none kV9 dc9 pm9 an9 cd9 ct9), sl9⟩) (c9 : PySem.W.codeIn K cd9 "is_group" = true) (k9 : PySem.W.keepIn K (.ref f9) = true)
    (a10 : PySem.W.nsIn K mainGlobals "agree" = some (some (.ref f10))) (l10 : K.lookup f10 = some ⟨oc10, od10, .func (PySem.W.fnOf "agree" "agree" (defArgs s_agree) (defBody s_agree) (defScope s_agree) .none kV10 dc10 pm10 an10 cd10 ct10), sl10⟩) (c10 : PySem.W.codeIn K cd10 "agree" = true) (k10 : PySem.W.keepIn K (.ref f10) = true)
    (a11 : PySem.W.nsIn K mainGlobals "are_prices" = some (some (.ref f11))) (l11 : K.lookup f11 = some ⟨oc11, od11, .func (PySem.W.fnOf "are_prices" "are_prices" (defArgs s_are_prices) (defBody s_are_prices) (defScope s_are_prices) .none kV11 dc11 pm11 an11 cd11 ct11), sl11⟩) (c11 : PySem.W.codeIn K cd11 "are_prices" = true) (k11 : PySem.W.keepIn K (.ref f11) = true)
    (a12 : PySem.W.nsIn K mainGlobals "_law_borne" = some (some (.ref f12))) (l12 : K.lookup f12 = some ⟨oc12, od12, .func (PySem.W.fnOf "_law_borne" "_law_borne" (defArgs s__law_borne) (defBody s__law_borne) (defScope s__law_borne) .none kV12 dc12 pm12 an12 cd12 ct12), sl12⟩) (c12 : PySem.W.codeIn K cd12 "_law_borne" = true) (k12 : PySem.W.keepIn K (.ref f12) = true)
    (a13 : PySem.W.nsIn K mainGlobals "_law_price" = some (some (.ref f13))) (l13 : K.lookup f13 = some ⟨oc13, od13, .func (PySem.W.fnOf "_law_price" "_law_price" (defArgs s__law_price) (defBody s__law_price) (defScope s__law_price) .none kV13 dc13 pm13 an13 cd13 ct13), sl13⟩) (c13 : PySem.W.codeIn K cd13 "_law_price" = true) (k13 : PySem.W.keepIn K (.ref f13) = true)
    (a14 : PySem.W.nsIn K mainGlobals "_law_pairs" = some (some (.ref f14))) (l14 : K.lookup f14 = some ⟨oc14, od14, .func (PySem.W.fnOf "_law_pairs" "_law_pairs" (defArgs s__law_pairs) (defBody s__law_pairs) (defScope s__law_pairs) .none kV14 dc14 pm14 an14 cd14 ct14), sl14⟩) (c14 : PySem.W.codeIn K cd14 "_law_pairs" = true) (k14 : PySem.W.keepIn K (.ref f14) = true)
    (a15 : PySem.W.nsIn K mainGlobals "_law_spoilt" = some (some (.ref f15))) (l15 : K.lookup f15 = some ⟨oc15, od15, .func (PySem.W.fnOf "_law_spoilt" "_law_spoilt" (defArgs s__law_spoilt) (defBody s__law_spoilt) (defScope s__law_spoilt) .none kV15 dc15 pm15 an15 cd15 ct15), sl15⟩) (c15 : PySem.W.codeIn K cd15 "_law_spoilt" = true) (k15 : PySem.W.keepIn K (.ref f15) = true)
    (a16 : PySem.W.nsIn K mainGlobals "_law_set" = some (some (.ref f16))) (l16 : K.lookup f16 = some ⟨oc16, od16, .func (PySem.W.fnOf "_law_set" "_law_set" (defArgs s__law_set) (defBody s__law_set) (defScope s__law_set) .none kV16 dc16 pm16 an16 cd16 ct16), sl16⟩) (c16 : PySem.W.codeIn K cd16 "_law_set" = true) (k16 : PySem.W.keepIn K (.ref f16) = true)
    (a17 : PySem.W.nsIn K mainGlobals "_law_due" = some (some (.ref f17))) (l17 : K.lookup f17 = some ⟨oc17, od17, .func (PySem.W.fnOf "_law_due" "_law_due" (defArgs s__law_due) (defBody s__law_due) (defScope s__law_due) .none kV17 dc17 pm17 an17 cd17 ct17), sl17⟩) (c17 : PySem.W.codeIn K cd17 "_law_due" = true) (k17 : PySem.W.keepIn K (.ref f17) = true)
    (a18 : PySem.W.nsIn K mainGlobals "law" = some (some (.ref f18))) (l18 : K.lookup f18 = some ⟨oc18, od18, .func (PySem.W.fnOf "law" "law" (defArgs s_law) (defBody s_law) (defScope s_law) .none kV18 dc18 pm18 an18 cd18 ct18), sl18⟩) (c18 : PySem.W.codeIn K cd18 "law" = true) (k18 : PySem.W.keepIn K (.ref f18) = true)
    (z_bool : PySem.W.nsIn K mainGlobals "bool" = some none)
    (z_enumerate : PySem.W.nsIn K mainGlobals "enumerate" = some none)
    (z_int : PySem.W.nsIn K mainGlobals "int" = some none)
    (z_isinstance : PySem.W.nsIn K mainGlobals "isinstance" = some none)
    (z_len : PySem.W.nsIn K mainGlobals "len" = some none)
    (z_list : PySem.W.nsIn K mainGlobals "list" = some none)
    (z_max : PySem.W.nsIn K mainGlobals "max" = some none)
    (z_min : PySem.W.nsIn K mainGlobals "min" = some none)
    (z_range : PySem.W.nsIn K mainGlobals "range" = some none)
    (z_sorted : PySem.W.nsIn K mainGlobals "sorted" = some none)
    (z_sum : PySem.W.nsIn K mainGlobals "sum" = some none)
    (z_tuple : PySem.W.nsIn K mainGlobals "tuple" = some none)
    {t_MOST_PLACES : Tok} (y_MOST_PLACES : PySem.W.nsIn K mainGlobals "MOST_PLACES" = some (some (.int 12 t_MOST_PLACES)))
    {t_MOST_ROADS : Tok} (y_MOST_ROADS : PySem.W.nsIn K mainGlobals "MOST_ROADS" = some (some (.int 60 t_MOST_ROADS)))
    {t_DEAREST : Tok} (y_DEAREST : PySem.W.nsIn K mainGlobals "DEAREST" = some (some (.int 10000000000000000000000000000000000000000 t_DEAREST)))
    : ∃ fd : FuncData, (∀ (s : Shared) (v : Value), BindsTo s fd ⟨[v], []⟩ [("_law_script", v)]) ∧ ∀ base : Heap, K.In base → base.Ns mainGlobals mg → FnOk l.prog w K mg base CX0 6 fa fd ["_law_script"] (spLaw K) := by
  have e := hfa.symm.trans (PySem.W.mg_of X G a18)
  cases e
  have T : Txt K mg := ⟨PySem.W.mg_none_of X G z_bool, PySem.W.mg_none_of X G z_enumerate, PySem.W.mg_none_of X G z_int, PySem.W.mg_none_of X G z_isinstance, PySem.W.mg_none_of X G z_len, PySem.W.mg_none_of X G z_list, PySem.W.mg_none_of X G z_max, PySem.W.mg_none_of X G z_min, PySem.W.mg_none_of X G z_range, PySem.W.mg_none_of X G z_sorted, PySem.W.mg_none_of X G z_sum, PySem.W.mg_none_of X G z_tuple, ⟨_, PySem.W.mg_of X G y_MOST_PLACES⟩, ⟨_, PySem.W.mg_of X G y_MOST_ROADS⟩, ⟨_, PySem.W.mg_of X G y_DEAREST⟩⟩
  refine ⟨PySem.W.fnOf "law" "law" (defArgs s_law) (defBody s_law) (defScope s_law) .none kV18 dc18 pm18 an18 cd18 ct18, fun s v => .of_eq rfl, fun base _ _ => ?_⟩
  have G__law_cell_at := d__law_cell_at (P := l.prog) (w := w) (base := base) ⟨f0, _, fun_mk (st := s__law_cell_at) l0 c0 k0, PySem.W.mg_of X G a0⟩ T 
  have G__law_mixed := d__law_mixed (P := l.prog) (w := w) (base := base) ⟨f1, _, fun_mk (st := s__law_mixed) l1 c1 k1, PySem.W.mg_of X G a1⟩ T 
  have G_is_whole := d_is_whole (P := l.prog) (w := w) (base := base) ⟨f2, _, fun_mk (st := s_is_whole) l2 c2 k2, PySem.W.mg_of X G a2⟩ T 
  have G_is_place := d_is_place (P := l.prog) (w := w) (base := base) ⟨f3, _, fun_mk (st := s_is_place) l3 c3 k3, PySem.W.mg_of X G a3⟩ T G_is_whole
  have G_is_road := d_is_road (P := l.prog) (w := w) (base := base) ⟨f4, _, fun_mk (st := s_is_road) l4 c4 k4, PySem.W.mg_of X G a4⟩ T G_is_whole G_is_place
  have G_checked := d_checked (P := l.prog) (w := w) (base := base) ⟨f5, _, fun_mk (st := s_checked) l5 c5 k5, PySem.W.mg_of X G a5⟩ T G_is_whole G_is_road
  have G_need_place := d_need_place (P := l.prog) (w := w) (base := base) ⟨f6, _, fun_mk (st := s_need_place) l6 c6 k6, PySem.W.mg_of X G a6⟩ T G_is_place
  have G_into := d_into (P := l.prog) (w := w) (base := base) ⟨f7, _, fun_mk (st := s_into) l7 c7 k7, PySem.W.mg_of X G a7⟩ T 
  have G_left_over := d_left_over (P := l.prog) (w := w) (base := base) ⟨f8, _, fun_mk (st := s_left_over) l8 c8 k8, PySem.W.mg_of X G a8⟩ T G_into
  have G_is_group := d_is_group (P := l.prog) (w := w) (base := base) ⟨f9, _, fun_mk (st := s_is_group) l9 c9 k9, PySem.W.mg_of X G a9⟩ T G_is_place
  have G_agree := d_agree (P := l.prog) (w := w) (base := base) ⟨f10, _, fun_mk (st := s_agree) l10 c10 k10, PySem.W.mg_of X G a10⟩ T 
  have G_are_prices := d_are_prices (P := l.prog) (w := w) (base := base) ⟨f11, _, fun_mk (st := s_are_prices) l11 c11 k11, PySem.W.mg_of X G a11⟩ T G_checked G_need_place G_is_whole G_is_group G_agree G_left_over
  have G__law_borne := d__law_borne (P := l.prog) (w := w) (base := base) ⟨f12, _, fun_mk (st := s__law_borne) l12 c12 k12, PySem.W.mg_of X G a12⟩ T 
  have G__law_price := d__law_price (P := l.prog) (w := w) (base := base) ⟨f13, _, fun_mk (st := s__law_price) l13 c13 k13, PySem.W.mg_of X G a13⟩ T 
  have G__law_pairs := d__law_pairs (P := l.prog) (w := w) (base := base) ⟨f14, _, fun_mk (st := s__law_pairs) l14 c14 k14, PySem.W.mg_of X G a14⟩ T G__law_cell_at G__law_mixed G__law_price
  have G__law_spoilt := d__law_spoilt (P := l.prog) (w := w) (base := base) ⟨f15, _, fun_mk (st := s__law_spoilt) l15 c15 k15, PySem.W.mg_of X G a15⟩ T 
  have G__law_set := d__law_set (P := l.prog) (w := w) (base := base) ⟨f16, _, fun_mk (st := s__law_set) l16 c16 k16, PySem.W.mg_of X G a16⟩ T 
  have G__law_due := d__law_due (P := l.prog) (w := w) (base := base) ⟨f17, _, fun_mk (st := s__law_due) l17 c17 k17, PySem.W.mg_of X G a17⟩ T G__law_set G__law_borne
  exact d_law (P := l.prog) (w := w) (base := base) (fun_mk (st := s_law) l18 c18 k18) T G__law_cell_at G__law_borne G__law_pairs G__law_spoilt G_are_prices G__law_due
theorem walk {l : PySem.W.OpenLaw} {q : Program} {loose : List Str} {XP : (Str → Option Value) → Heap → Prop} {YP : World → Heap → Prop} {d : DefRec} {K : Params → PySem.W.Frag} (hn : l.most = some 63) (hdf : d.params.defaults = [])
    (hY : ∀ (w : World) (h : Heap), YP w h → (K w.params).In h)
    (F : ∀ (w : World) (mg : Str → Option Value) (fa : Addr) (h : Heap), (K w.params).In h → h.Ns mainGlobals mg → mg d.name = some (.ref fa) →
      ∃ fd : FuncData, (∀ (s : Shared) (u : Value), BindsTo s fd ⟨[u], []⟩ [("_law_script", u)]) ∧ ∀ base : Heap, (K w.params).In base → base.Ns mainGlobals mg → FnOk l.prog w (K w.params) mg base CX0 6 fa fd ["_law_script"] (spLaw (K w.params))) :
    PySem.W.WalkO q loose XP YP l.row.toRowW d [] (fun f vs => PySem.call f vs) :=
  L2.walk_ofB (n := 63) (k := 6) (x := "_law_script") (CX := fun _ => CX0) (sp := fun w => spLaw (K w.params)) hn (by decide) hdf ⟨rfl, by decide, by decide⟩ hY F (fun _ H a ns hl hb _ hS =>
    ⟨ns, H, Ex.refl H, ⟨_, ns, [], rfl, rfl, ⟨a, rfl, hS⟩, rfl⟩, ⟨hl, fun z hz => Bd.bits (hb z hz)⟩, fun w y B2 H2 _ hy hR => by cases hy; exact hR⟩) fun _ _ _ _ _ z => z
end RR
open PySem PySem.W PyProof.Rows in
set_option maxRecDepth 100000 in
set_option maxHeartbeats 0 in
theorem PySem.Challenge.cw_rootroads_k07_what_are_prices_holds : PySem.Challenge.rw_rootroads_k07_what_are_prices.Holds := by
  w_on; o_law; k_head; (case hw => w_witness2)
  k_fill
  refine RR.walk (l := PySem.Challenge.rw_rootroads_k07_what_are_prices) rfl rfl (fun w h Y => PySem.W.kIn_of Y) ?F
  case F =>
    intro w mg fa h KX G hmg
    refine' RR.all_mk KX G hmg ?a0 ?l0 ?c0 ?k0 ?a1 ?l1 ?c1 ?k1 ?a2 ?l2 ?c2 ?k2 ?a3 ?l3 ?c3 ?k3 ?a4 ?l4 ?c4 ?k4 ?a5 ?l5 ?c5 ?k5 ?a6 ?l6 ?c6 ?k6 ?a7 ?l7 ?c7 ?k7 ?a8 ?l8 ?c8 ?k8 ?a9 ?l9 ?c9 ?k9 ?a10 ?l10 ?c10 ?k10 ?a11 ?l11 ?c11 ?k11 ?a12 ?l12 ?c12 ?k12 ?a13 ?l13 ?c13 ?k13 ?a14 ?l14 ?c14 ?k14 ?a15 ?l15 ?c15 ?k15 ?a16 ?l16 ?c16 ?k16 ?a17 ?l17 ?c17 ?k17 ?a18 ?l18 ?c18 ?k18 ?z_bool ?z_enumerate ?z_int ?z_isinstance ?z_len ?z_list ?z_max ?z_min ?z_range ?z_sorted ?z_sum ?z_tuple ?y_MOST_PLACES ?y_MOST_ROADS ?y_DEAREST
    (case a0 => k_is)
    (case l0 => k_is)
    (case c0 => k_is)
    (case k0 => k_is)
    (case a1 => k_is)
    (case l1 => k_is)
    (case c1 => k_is)
    (case k1 => k_is)
    (case a2 => k_is)
    (case l2 => k_is)
    (case c2 => k_is)
    (case k2 => k_is)
    (case a3 => k_is)
    (case l3 => k_is)
    (case c3 => k_is)
    (case k3 => k_is)
    (case a4 => k_is)
    (case l4 => k_is)
    (case c4 => k_is)
    (case k4 => k_is)
    (case a5 => k_is)
    (case l5 => k_is)
    (case c5 => k_is)
    (case k5 => k_is)
    (case a6 => k_is)
    (case l6 => k_is)
    (case c6 => k_is)
    (case k6 => k_is)
    (case a7 => k_is)
    (case l7 => k_is)
    (case c7 => k_is)
    (case k7 => k_is)
    (case a8 => k_is)
    (case l8 => k_is)
    (case c8 => k_is)
    (case k8 => k_is)
    (case a9 => k_is)
    (case l9 => k_is)
    (case c9 => k_is)
    (case k9 => k_is)
    (case a10 => k_is)
    (case l10 => k_is)
    (case c10 => k_is)
    (case k10 => k_is)
    (case a11 => k_is)
    (case l11 => k_is)
    (case c11 => k_is)
    (case k11 => k_is)
    (case a12 => k_is)
    (case l12 => k_is)
    (case c12 => k_is)
    (case k12 => k_is)
    (case a13 => k_is)
    (case l13 => k_is)
    (case c13 => k_is)
    (case k13 => k_is)
    (case a14 => k_is)
    (case l14 => k_is)
    (case c14 => k_is)
    (case k14 => k_is)
    (case a15 => k_is)
    (case l15 => k_is)
    (case c15 => k_is)
    (case k15 => k_is)
    (case a16 => k_is)
    (case l16 => k_is)
    (case c16 => k_is)
    (case k16 => k_is)
    (case a17 => k_is)
    (case l17 => k_is)
    (case c17 => k_is)
    (case k17 => k_is)
    (case a18 => k_is)
    (case l18 => k_is)
    (case c18 => k_is)
    (case k18 => k_is)
    (case z_bool => k_is)
    (case z_enumerate => k_is)
    (case z_int => k_is)
    (case z_isinstance => k_is)
    (case z_len => k_is)
    (case z_list => k_is)
    (case z_max => k_is)
    (case z_min => k_is)
    (case z_range => k_is)
    (case z_sorted => k_is)
    (case z_sum => k_is)
    (case z_tuple => k_is)
    (case y_MOST_PLACES => k_is)
    (case y_MOST_ROADS => k_is)
    (case y_DEAREST => k_is)
#print axioms PySem.Challenge.cw_rootroads_k07_what_are_prices_holds
