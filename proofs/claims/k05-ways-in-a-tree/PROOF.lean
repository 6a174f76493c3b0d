import PyProof.Rows.All
import Wide.All
import OpenK.AllK
import Wide.FinOn
import HandS.ForMost
import HandS.Evl
import HandS.IsInst
import HandS.Wide
import HandS.EndBits
import HandS.Deep
import HandS.Exc
import HandS.ExcOwn
import HandS.TryOnly
import HandS.TryMany
import HandS.ExcIs
import HandS.WordsExc
import PyProof.RangeIter
import HandS.ExcCtx
import HandS.Hot
import HandS.HotCalls
import HandS.More
import HandS.TupAny
import HandS.SortInts
import HandS.SortKw
import HandS.Style
import HandS.DeepEq
import PySem.Challenge.RW_rootroads_k05_ways_in_a_tree
set_option Elab.async false
set_option linter.all false
set_option maxRecDepth 100000
set_option maxHeartbeats 8000000
namespace RR
open PySem L2 Evl

/-! ### 1. Two heaps: B, what is known for good; H, what stands. -/
structure Stp (B H B' H' : Hp) : Prop where
  eb : Ex B B'
  eh : Ex H H'
  bh : Ex B' H'
  nw : ∀ b o, B' b = some o → B b = some o ∨ H b = none
theorem Stp.refl {B H : Hp} (x : Ex B H) : Stp B H B H := ⟨Ex.refl _, Ex.refl _, x, fun _ _ h => .inl h⟩
theorem Stp.trans {B H B1 H1 B2 H2 : Hp} (a : Stp B H B1 H1) (b : Stp B1 H1 B2 H2) : Stp B H B2 H2 :=
  ⟨a.eb.trans b.eb, a.eh.trans b.eh, b.bh, fun c o h => by
    rcases b.nw c o h with q | q
    · exact a.nw c o q
    · exact .inr (fresh_back a.eh q)⟩
theorem Stp.go {B H H1 : Hp} (x : Ex B H) (e : Ex H H1) : Stp B H B H1 := ⟨Ex.refl _, e, x.trans e, fun _ _ h => .inl h⟩
theorem Stp.goH {B0 H0 B H H1 : Hp} (s : Stp B0 H0 B H) (e : Ex H H1) : Stp B0 H0 B H1 := s.trans (Stp.go s.bh e)
theorem Stp.new {B H : Hp} (x : Ex B H) {p : Addr} {o : HO} (hp : H p = none) : Stp B H (upd B p o) (upd H p o) :=
  ⟨Ex.new (fresh_back x hp), Ex.new hp, fun a u h => by
    by_cases e : a = p
    · subst e
      rw [upd_same] at h ⊢
      exact h
    · rw [upd_ne e] at h ⊢
      exact x a u h, fun b u h => by
    by_cases e : b = p
    · subst e
      exact .inr hp
    · rw [upd_ne e] at h
      exact .inl h⟩
/-- the union of what is known -/
def jn (A B : Hp) : Hp := fun a => match A a with
  | some o => some o
  | none => B a
theorem jn_l {A B : Hp} : Ex A (jn A B) := fun a o h => by
  unfold jn
  rw [h]
theorem jn_h {A B H : Hp} (x : Ex A H) (y : Ex B H) : Ex (jn A B) H := fun a o h => by
  unfold jn at h
  cases e : A a with
  | some u =>
    rw [e] at h
    cases h
    exact x a _ e
  | none =>
    rw [e] at h
    exact y a _ h
theorem jn_r {A B H : Hp} (x : Ex A H) (y : Ex B H) : Ex B (jn A B) := fun a o h => by
  unfold jn
  cases e : A a with
  | some u =>
    have h1 := x a _ e
    rw [y a _ h] at h1
    exact h1.symm
  | none => exact h
/-- a step shown from less is a step from more -/
theorem Stp.join {B H B1 H1 B2 H2 H3 : Hp} (s : Stp B H B1 H1) (e : Ex H1 H2) (t : Stp B H2 B2 H3) : Stp B1 H2 (jn B1 B2) H3 :=
  ⟨jn_l, t.eh, jn_h ((s.bh.trans e).trans t.eh) t.bh, fun b o h => by
    unfold jn at h
    cases q : B1 b with
    | some u =>
      rw [q] at h
      cases h
      exact .inl rfl
    | none =>
      rw [q] at h
      rcases t.nw b o h with z | z
      · rw [s.eb b o z] at q
        cases q
      · exact .inr z⟩

/-- a thing of one's own, that changes: made behind H0, in no B -/
structure Cell (H0 B H : Hp) (p : Addr) (o : HO) : Prop where
  n : H0 p = none
  b : B p = none
  h : H p = some o
section
variable {B0 H0 B H B1 H1 : Hp} {p q : Addr} {o u v : HO}
theorem Cell.nb (c : Cell H0 B H p o) (s : Stp B H B1 H1) : B1 p = none := by
  cases e : B1 p with
  | none => rfl
  | some z =>
    rcases s.nw p z e with r | r
    · rw [c.b] at r
      cases r
    · rw [c.h] at r
      cases r
theorem Cell.up (c : Cell H0 B H p o) (s : Stp B H B1 H1) : Cell H0 B1 H1 p o := ⟨c.n, c.nb s, s.eh _ _ c.h⟩
theorem Cell.go (c : Cell H0 B H p o) (e : Ex H H1) : Cell H0 B H1 p o := ⟨c.n, c.b, e _ _ c.h⟩
theorem Cell.mut (c : Cell H0 B H p o) (s : Stp B0 H0 B H) : Stp B0 H0 B (upd H p u) :=
  ⟨s.eb, Ex.mut s.eh c.n, Ex.mut s.bh c.b, s.nw⟩
theorem Cell.same (c : Cell H0 B H p o) : Cell H0 B (upd H p u) p u := ⟨c.n, c.b, upd_same⟩
theorem Cell.other (c : Cell H0 B H p o) (ne : p ≠ q) : Cell H0 B (upd H q u) p o := ⟨c.n, c.b, by rw [upd_ne ne]; exact c.h⟩
theorem Cell.ne (c : Cell H0 B H p o) (d : Cell H0 B H q u) (h : o ≠ u) : p ≠ q := ne_of c.h d.h h
theorem Cell.neN (c : Cell H0 B H p o) (d : H q = none) : p ≠ q := ne_of_none c.h d
end

/-! ### 2. What a value stands for -/
structure Enc (α : Type) where
  R : Hp → V → α → Prop
  up : ∀ {H H' : Hp} {v : V} {x : α}, Ex H H' → R H v x → R H' v x
section
variable {α β γ : Type}
theorem pmap {R S : V → α → Prop} (h : ∀ v x, R v x → S v x) : ∀ {vs : List V} {xs : List α}, Paired R vs xs → Paired S vs xs
  | _, _, .nil => .nil
  | _, _, .cons r t => .cons (h _ _ r) (pmap h t)
theorem Enc.ups (E : Enc α) {H H' : Hp} (e : Ex H H') {vs : List V} {xs : List α} (h : Paired (E.R H) vs xs) : Paired (E.R H') vs xs := pmap (fun _ _ q => E.up e q) h
theorem pget {R : V → α → Prop} : ∀ {vs : List V} {xs : List α} {i : Nat} {x : α}, Paired R vs xs → xs[i]? = some x → ∃ v, vs[i]? = some v ∧ R v x
  | _, _, i, x, .nil, h => by simp at h
  | _, _, 0, x, .cons r t, h => by
    simp only [List.getElem?_cons_zero, Option.some.injEq] at h
    subst h
    exact ⟨_, rfl, r⟩
  | _, _, i + 1, x, .cons r t, h => by
    simp only [List.getElem?_cons_succ] at h ⊢
    exact pget t h
theorem pgetV {R : V → α → Prop} {vs : List V} {xs : List α} {i : Nat} {v : V} (p : Paired R vs xs) (h : vs[i]? = some v) : ∃ x, xs[i]? = some x ∧ R v x := by
  induction p generalizing i with
  | nil => simp at h
  | cons r t ih =>
    cases i with
    | zero =>
      simp only [List.getElem?_cons_zero, Option.some.injEq] at h
      subst h
      exact ⟨_, rfl, r⟩
    | succ i =>
      simp only [List.getElem?_cons_succ] at h ⊢
      exact ih h
theorem papp {R : V → α → Prop} : ∀ {vs ws : List V} {xs ys : List α}, Paired R vs xs → Paired R ws ys → Paired R (vs ++ ws) (xs ++ ys)
  | _, _, _, _, .nil, h => h
  | _, _, _, _, .cons r t, h => .cons r (papp t h)
theorem pdrop {R : V → α → Prop} : ∀ (n : Nat) {vs : List V} {xs : List α}, Paired R vs xs → Paired R (vs.drop n) (xs.drop n)
  | 0, _, _, h => h
  | n + 1, _, _, .nil => .nil
  | n + 1, _, _, .cons r t => pdrop n t
theorem ptake {R : V → α → Prop} : ∀ (n : Nat) {vs : List V} {xs : List α}, Paired R vs xs → Paired R (vs.take n) (xs.take n)
  | 0, _, _, h => .nil
  | n + 1, _, _, .nil => .nil
  | n + 1, _, _, .cons r t => .cons r (ptake n t)
theorem prev {R : V → α → Prop} : ∀ {vs : List V} {xs : List α}, Paired R vs xs → Paired R vs.reverse xs.reverse
  | _, _, .nil => .nil
  | _, _, .cons r t => by
    rw [List.reverse_cons, List.reverse_cons]
    exact papp (prev t) (.cons r .nil)
theorem pset {R : V → α → Prop} {v : V} {x : α} (r : R v x) : ∀ (i : Nat) {vs : List V} {xs : List α}, Paired R vs xs → Paired R (vs.set i v) (xs.set i x)
  | _, _, _, .nil => .nil
  | 0, _, _, .cons _ t => .cons r t
  | i + 1, _, _, .cons q t => .cons q (pset r i t)

def eI : Enc Int := ⟨fun _ v n => v = .int n, fun _ h => h⟩
def eB : Enc Bool := ⟨fun _ v b => v = .bl b, fun _ h => h⟩
def oV : Option Int → V
  | none => .non
  | some n => .int n
def eO : Enc (Option Int) := ⟨fun _ v o => v = oV o, fun _ h => h⟩
/-- any value, by itself -/
def eV : Enc V := ⟨fun _ v w => v = w, fun _ h => h⟩
def eL (E : Enc α) : Enc (List α) := ⟨fun H v xs => ∃ a vs, v = .ref a ∧ H a = some (.lst vs) ∧ Paired (E.R H) vs xs, fun e ⟨a, vs, h1, h2, h3⟩ => ⟨a, vs, h1, e _ _ h2, E.ups e h3⟩⟩
def eT (E : Enc α) : Enc (List α) := ⟨fun H v xs => ∃ a vs, v = .ref a ∧ H a = some (.tup vs) ∧ Paired (E.R H) vs xs, fun e ⟨a, vs, h1, h2, h3⟩ => ⟨a, vs, h1, e _ _ h2, E.ups e h3⟩⟩
def e2 (E : Enc α) (F : Enc β) : Enc (α × β) := ⟨fun H v x => ∃ a u w, v = .ref a ∧ H a = some (.tup [u, w]) ∧ E.R H u x.1 ∧ F.R H w x.2, fun e ⟨a, u, w, h1, h2, h3, h4⟩ => ⟨a, u, w, h1, e _ _ h2, E.up e h3, F.up e h4⟩⟩
def e3 (E : Enc α) (F : Enc β) (G : Enc γ) : Enc (α × β × γ) := ⟨fun H v x => ∃ a u w z, v = .ref a ∧ H a = some (.tup [u, w, z]) ∧ E.R H u x.1 ∧ F.R H w x.2.1 ∧ G.R H z x.2.2,
  fun e ⟨a, u, w, z, h1, h2, h3, h4, h5⟩ => ⟨a, u, w, z, h1, e _ _ h2, E.up e h3, F.up e h4, G.up e h5⟩⟩
/-- a tuple that begins with two ints -/
def eH : Enc (Int × Int) := ⟨fun H v x => ∃ a r, v = .ref a ∧ H a = some (.tup (.int x.1 :: .int x.2 :: r)), fun e ⟨a, r, h1, h2⟩ => ⟨a, r, h1, e _ _ h2⟩⟩
/-- a dict by its int keys -/
def eD : Enc (List Int) := ⟨fun H v ks => ∃ a kvs, v = .ref a ∧ H a = some (.dK kvs) ∧ kvs.map (·.1) = ks.map Sum.inl, fun e ⟨a, kvs, h1, h2, h3⟩ => ⟨a, kvs, h1, e _ _ h2, h3⟩⟩
abbrev Road := Int × Int × Int
abbrev eR : Enc Road := e3 eI eI eI
theorem pI {H : Hp} : ∀ {vs : List V} {ns : List Int}, Paired (eI.R H) vs ns → vs = ns.map V.int
  | _, _, .nil => rfl
  | _, _, .cons r t => by
    rw [pI t, show _ = V.int _ from r]
    rfl
theorem pI' {H : Hp} : ∀ (ns : List Int), Paired (eI.R H) (ns.map V.int) ns
  | [] => .nil
  | _ :: r => .cons rfl (pI' r)
theorem pO {H : Hp} : ∀ {vs : List V} {ns : List (Option Int)}, Paired (eO.R H) vs ns → vs = ns.map oV
  | _, _, .nil => rfl
  | _, _, .cons r t => by
    rw [pO t, show _ = oV _ from r]
    rfl
theorem pO' {H : Hp} : ∀ (ns : List (Option Int)), Paired (eO.R H) (ns.map oV) ns
  | [] => .nil
  | _ :: r => .cons rfl (pO' r)
theorem eLI {H : Hp} {v : V} {ns : List Int} (h : (eL eI).R H v ns) : ∃ a, v = .ref a ∧ H a = some (.lst (ns.map V.int)) := by
  obtain ⟨a, vs, h1, h2, h3⟩ := h
  rw [pI h3] at h2
  exact ⟨a, h1, h2⟩
theorem eTI {H : Hp} {v : V} {ns : List Int} (h : (eT eI).R H v ns) : ∃ a, v = .ref a ∧ H a = some (.tup (ns.map V.int)) := by
  obtain ⟨a, vs, h1, h2, h3⟩ := h
  rw [pI h3] at h2
  exact ⟨a, h1, h2⟩
theorem eR_H {H : Hp} {v : V} {r : Road} (h : eR.R H v r) : eH.R H v (r.1, r.2.1) := by
  obtain ⟨a, u, w, z, h1, h2, h3, h4, h5⟩ := h
  cases h3
  cases h4
  exact ⟨a, [z], h1, h2⟩
theorem eRs_H {H : Hp} {v : V} {rs : List Road} (h : (eL eR).R H v rs) : (eL eH).R H v (rs.map fun r => (r.1, r.2.1)) := by
  obtain ⟨a, vs, h1, h2, h3⟩ := h
  refine ⟨a, vs, h1, h2, ?_⟩
  clear h1 h2
  induction h3 with
  | nil => exact .nil
  | cons r t ih => exact .cons (eR_H r) ih
end

/-! ### 3. What an expression tells: EvS (a value that stands for some x with S x), EvM (a new list of one's own) -/
section
variable {α β γ δ ε : Type} {E : Enc α} {F : Enc β} {G : Enc γ}
def EvS (E : Enc α) (te : TE) (σ : L2.St) (B H : Hp) (S : α → Prop) : Prop := ∀ H1, Ex H H1 → ∀ Q : VK, (∀ v x B2 H2, Stp B H1 B2 H2 → S x → E.R B2 v x → Q v H2) → te σ H1 Q
abbrev EvE (E : Enc α) (te : TE) (σ : L2.St) (B H : Hp) (x : α) : Prop := EvS E te σ B H (fun y => y = x)
/-- a new list, known to none: it may be changed -/
def EvM (E : Enc α) (te : TE) (σ : L2.St) (B H : Hp) (S : List α → Prop) : Prop := ∀ H1, Ex H H1 → ∀ Q : VK, (∀ p vs xs B2 H2, Stp B H1 B2 H2 → H1 p = none → B2 p = none → H2 p = some (.lst vs) → S xs → Paired (E.R B2) vs xs → Q (.ref p) H2) → te σ H1 Q
variable {te ta tb tc : TE} {tt : TT} {σ : L2.St} {B H B1 H1 : Hp} {S : α → Prop} {T : β → Prop} {K : PySem.W.Frag}
theorem EvS.up (h : EvS E te σ B H S) (s : Stp B H B1 H1) : EvS E te σ B1 H1 S := fun H2 e Q k =>
  h H2 (s.eh.trans e) Q fun v x B2 H3 t hS hR => k v x (jn B1 B2) H3 (s.join e t) hS (E.up (jn_r ((s.bh.trans e).trans t.eh) t.bh) hR)
theorem EvM.up {S : List α → Prop} (h : EvM E te σ B H S) (s : Stp B H B1 H1) : EvM E te σ B1 H1 S := fun H2 e Q k =>
  h H2 (s.eh.trans e) Q fun p vs xs B2 H3 t hp bp hl hS hR => k p vs xs (jn B1 B2) H3 (s.join e t) hp (by
    have q : B1 p = none := fresh_back (s.bh.trans e) hp
    unfold jn
    rw [q]
    exact bp) hl hS (E.ups (jn_r ((s.bh.trans e).trans t.eh) t.bh) hR)
theorem EvM.s {S : List α → Prop} (h : EvM E te σ B H S) : EvS (eL E) te σ B H S := fun H2 e Q k =>
  h H2 e Q fun p vs xs B2 H3 t hp bp hl hS hR => k (.ref p) xs (upd B2 p (.lst vs)) H3 ⟨t.eb.trans (Ex.new bp), t.eh, fun a u q => by
    by_cases z : a = p
    · subst z
      rw [upd_same] at q
      cases q
      exact hl
    · rw [upd_ne z] at q
      exact t.bh a u q, fun a u q => by
    by_cases z : a = p
    · subst z
      exact .inr hp
    · rw [upd_ne z] at q
      exact t.nw a u q⟩ hS ⟨p, vs, rfl, upd_same, E.ups (Ex.new bp) hR⟩
theorem EvS.imp {S' : α → Prop} (h : EvS E te σ B H S) (i : ∀ x, S x → S' x) : EvS E te σ B H S' := fun H1 e Q k => h H1 e Q fun v x B2 H2 t hS hR => k v x B2 H2 t (i x hS) hR
theorem EvM.imp {S S' : List α → Prop} (h : EvM E te σ B H S) (i : ∀ x, S x → S' x) : EvM E te σ B H S' := fun H1 e Q k => h H1 e Q fun p vs xs B2 H2 t a b c hS hR => k p vs xs B2 H2 t a b c (i xs hS) hR
theorem EvE.to {x y : α} (h : EvE E te σ B H x) (e : x = y) : EvE E te σ B H y := e ▸ h
theorem EvS.conv {T : α → Prop} {E' : Enc β} {T' : β → Prop} (h : EvS E te σ B H T) (i : ∀ B v x, T x → E.R B v x → ∃ y, T' y ∧ E'.R B v y) : EvS E' te σ B H T' := fun H1 e Q k =>
  h H1 e Q fun v x B2 H2 t hS hR => by
    obtain ⟨y, a, b⟩ := i B2 v x hS hR
    exact k v y B2 H2 t a b
/-- scalars -/
theorem es_ev {v : V} {x : α} (x0 : Ex B H) (h : Ev te σ H v) (r : E.R B v x) : EvE E te σ B H x := fun H1 e Q k => h H1 e Q fun H2 e2 => k v x B H2 (Stp.go (x0.trans e) e2) rfl r
theorem es_evI {n : Int} (x0 : Ex B H) (h : Ev te σ H (.int n)) : EvE eI te σ B H n := es_ev x0 h rfl
theorem es_evB {b : Bool} (x0 : Ex B H) (h : Ev te σ H (.bl b)) : EvE eB te σ B H b := es_ev x0 h rfl
theorem ev_sI {n : Int} (h : EvE eI te σ B H n) : Ev te σ H (.int n) := fun H1 e Q k => h H1 e Q fun v x B2 H2 t hS hR => by
  cases hS
  cases hR
  exact k H2 t.eh
theorem ev_sB {b : Bool} (h : EvE eB te σ B H b) : Ev te σ H (.bl b) := fun H1 e Q k => h H1 e Q fun v x B2 H2 t hS hR => by
  cases hS
  cases hR
  exact k H2 t.eh
theorem ev_sO {o : Option Int} (h : EvE eO te σ B H o) : Ev te σ H (oV o) := fun H1 e Q k => h H1 e Q fun v x B2 H2 t hS hR => by
  cases hS
  cases hR
  exact k H2 t.eh
theorem et_sT {b : Bool} (h : EvE eB te σ B H b) : EvT (tTest te) σ H b := et_test (ev_sB h)
theorem et_sB {b : Bool} (h : EvE eB te σ B H b) : EvT (tB te) σ H b := et_B (ev_sB h)

theorem es_var {i : Nat} {v : V} {x : α} (x0 : Ex B H) (h : σ[i]? = some (some v)) (r : E.R B v x) : EvE E (tVar i) σ B H x := es_ev x0 (ev_var h) r
theorem es_varI {i : Nat} {n : Int} (x0 : Ex B H) (h : σ[i]? = some (some (.int n))) : EvE eI (tVar i) σ B H n := es_ev x0 (ev_var h) rfl
theorem es_int {n : Int} (x0 : Ex B H) : EvE eI (tC (.int n)) σ B H n := es_ev x0 ev_c rfl
theorem es_bl {b : Bool} (x0 : Ex B H) : EvE eB (tC (.bl b)) σ B H b := es_ev x0 ev_c rfl
theorem es_non (x0 : Ex B H) : EvE eO (tC .non) σ B H none := es_ev x0 ev_c rfl

/-- two parts, then an operation on what they stand for -/
theorem es_opG {r : R2} {x : α} {y : β} {P : γ → Prop} (x0 : Ex B H) (ha : EvE E ta σ B H x) (hb : EvE F tb σ B H y)
    (hr : ∀ v w B2 H2, Ex B2 H2 → E.R B2 v x → F.R B2 w y → ∀ Q : VK, (∀ z c B3 H3, Stp B2 H2 B3 H3 → P c → G.R B3 z c → Q z H3) → r v w H2 Q) : EvS G (tOp r ta tb) σ B H P := fun H1 e Q k =>
  ha H1 e _ fun v x' B2 H2 t hx hR => by
    cases hx
    exact hb.up ((Stp.go x0 e).trans t) H2 (Ex.refl _) _ fun w y' B3 H3 t2 hy hR2 => by
      cases hy
      exact hr v w B3 H3 t2.bh (E.up t2.eb hR) hR2 Q fun z c B4 H4 t3 hc hz => k z c B4 H4 ((t.trans t2).trans t3) hc hz
theorem es_op {r : R2} {x : α} {y : β} {c : γ} (x0 : Ex B H) (ha : EvE E ta σ B H x) (hb : EvE F tb σ B H y)
    (hr : ∀ v w B2 H2, Ex B2 H2 → E.R B2 v x → F.R B2 w y → ∃ z, G.R B2 z c ∧ ∀ Q : VK, Q z H2 → r v w H2 Q) : EvE G (tOp r ta tb) σ B H c :=
  es_opG x0 ha hb fun v w B2 H2 x2 hv hw Q k => by
    obtain ⟨z, hz, q⟩ := hr v w B2 H2 x2 hv hw
    exact q Q (k z c B2 H2 (Stp.refl x2) rfl hz)
theorem es_opI {g : Int → Int → Int} {x y : Int} (x0 : Ex B H) (ha : EvE eI ta σ B H x) (hb : EvE eI tb σ B H y) : EvE eI (tOp (rI0 fun i j => .int (g i j)) ta tb) σ B H (g x y) :=
  es_op x0 ha hb fun v w B2 H2 _ hv hw => ⟨_, rfl, fun Q q => ⟨x, y, hv, hw, q⟩⟩
theorem es_opB {g : Int → Int → Bool} {x y : Int} (x0 : Ex B H) (ha : EvE eI ta σ B H x) (hb : EvE eI tb σ B H y) : EvE eB (tOp (rI0 fun i j => .bl (g i j)) ta tb) σ B H (g x y) :=
  es_op x0 ha hb fun v w B2 H2 _ hv hw => ⟨_, rfl, fun Q q => ⟨x, y, hv, hw, q⟩⟩
theorem es_opC {C : Int → Int → Prop} {g : Int → Int → Int} {x y : Int} (x0 : Ex B H) (ha : EvE eI ta σ B H x) (hb : EvE eI tb σ B H y) (hc : C x y) : EvE eI (tOp (rI C fun i j => .int (g i j)) ta tb) σ B H (g x y) :=
  es_op x0 ha hb fun v w B2 H2 _ hv hw => ⟨_, rfl, fun Q q => ⟨x, y, hv, hw, hc, q⟩⟩
theorem es_neg {x : Int} (ha : EvE eI ta σ B H x) : EvE eI (tUn (rU fun i => .int (-i)) ta) σ B H (-x) := fun H1 e Q k =>
  ha H1 e _ fun v x' B2 H2 t hx hR => by
    cases hx
    exact ⟨x, hR, k _ _ B2 H2 t rfl rfl⟩
theorem dec_int (x y : Int) : decide (V.int x = V.int y) = decide (x = y) := by
  by_cases h : x = y
  · subst h
    simp
  · rw [decide_eq_false h, decide_eq_false fun q => h (V.int.inj q)]
theorem dec_bl (x y : Bool) : decide (V.bl x = V.bl y) = decide (x = y) := by
  by_cases h : x = y
  · subst h
    simp
  · rw [decide_eq_false h, decide_eq_false fun q => h (V.bl.inj q)]
theorem es_eqI {x y : Int} (x0 : Ex B H) (ha : EvE eI ta σ B H x) (hb : EvE eI tb σ B H y) : EvE eB (tOp rEq ta tb) σ B H (decide (x = y)) :=
  es_op x0 ha hb fun v w B2 H2 _ hv hw => ⟨_, rfl, fun Q q => by
    cases hv
    cases hw
    exact ⟨rfl, by rw [dec_int]; exact q⟩⟩
theorem es_neI {x y : Int} (x0 : Ex B H) (ha : EvE eI ta σ B H x) (hb : EvE eI tb σ B H y) : EvE eB (tOp rNe ta tb) σ B H (!decide (x = y)) :=
  es_op x0 ha hb fun v w B2 H2 _ hv hw => ⟨_, rfl, fun Q q => by
    cases hv
    cases hw
    exact ⟨rfl, by rw [dec_int]; exact q⟩⟩
theorem es_eqB {x y : Bool} (x0 : Ex B H) (ha : EvE eB ta σ B H x) (hb : EvE eB tb σ B H y) : EvE eB (tOp rEq ta tb) σ B H (decide (x = y)) :=
  es_op x0 ha hb fun v w B2 H2 _ hv hw => ⟨_, rfl, fun Q q => by
    cases hv
    cases hw
    exact ⟨rfl, by rw [dec_bl]; exact q⟩⟩
theorem es_neB {x y : Bool} (x0 : Ex B H) (ha : EvE eB ta σ B H x) (hb : EvE eB tb σ B H y) : EvE eB (tOp rNe ta tb) σ B H (!decide (x = y)) :=
  es_op x0 ha hb fun v w B2 H2 _ hv hw => ⟨_, rfl, fun Q q => by
    cases hv
    cases hw
    exact ⟨rfl, by rw [dec_bl]; exact q⟩⟩
theorem non_oV (o : Option Int) : decide (oV o = V.non) = o.isNone := by
  cases o with
  | none => rfl
  | some n => exact decide_eq_false fun q => nomatch q
theorem es_isNO {o : Option Int} (x0 : Ex B H) (ha : EvE eO ta σ B H o) : EvE eB (tOp (fun x y H Q => y = V.non ∧ Q (.bl (decide (x = .non))) H) ta (tC .non)) σ B H o.isNone :=
  es_op x0 ha (es_non x0) fun v w B2 H2 _ hv hw => ⟨_, rfl, fun Q q => by
    cases hv
    cases hw
    exact ⟨rfl, by rw [non_oV]; exact q⟩⟩
theorem es_notNO {o : Option Int} (x0 : Ex B H) (ha : EvE eO ta σ B H o) : EvE eB (tOp (fun x y H Q => y = V.non ∧ Q (.bl (!decide (x = .non))) H) ta (tC .non)) σ B H (!o.isNone) :=
  es_op x0 ha (es_non x0) fun v w B2 H2 _ hv hw => ⟨_, rfl, fun Q q => by
    cases hv
    cases hw
    exact ⟨rfl, by rw [non_oV]; exact q⟩⟩

/-! chains a < b < c -/
theorem es_chain {r r' : R2} {x : α} {y : β} {z : γ} {b1 b2 : Bool} (x0 : Ex B H) (ha : EvE E ta σ B H x) (hb : EvE F tb σ B H y) (hc : EvE G tc σ B H z)
    (hr : ∀ v w B2 H2, E.R B2 v x → F.R B2 w y → ∀ Q : VK, Q (.bl b1) H2 → r v w H2 Q) (hr' : ∀ v w B2 H2, F.R B2 v y → G.R B2 w z → ∀ Q : VK, Q (.bl b2) H2 → r' v w H2 Q) :
    EvE eB (tChain r r' ta tb tc) σ B H (b1 && b2) := fun H1 e Q k =>
  ha H1 e _ fun v x' B2 H2 t hx hR => by
    cases hx
    exact hb.up ((Stp.go x0 e).trans t) H2 (Ex.refl _) _ fun w y' B3 H3 t2 hy hR2 => by
      cases hy
      refine hr v w B3 H3 (E.up t2.eb hR) hR2 _ ⟨b1, rfl, ?_⟩
      cases b1 with
      | false => exact iteF (k _ _ B3 H3 (t.trans t2) rfl rfl)
      | true =>
        refine iteT (hc.up (((Stp.go x0 e).trans t).trans t2) H3 (Ex.refl _) _ fun w2 z' B4 H4 t3 hz hR3 => ?_)
        cases hz
        exact hr' w w2 B4 H4 (F.up t3.eb hR2) hR3 _ (k _ _ B4 H4 ((t.trans t2).trans t3) rfl rfl)

/-! ### places of lists and tuples -/
theorem atI_of {ξ : Type} {xs : List ξ} {i : Int} {x : ξ} (h0 : 0 ≤ i) (h : xs[i.toNat]? = some x) : atI xs i = some x := by
  have e : ((i.toNat : Nat) : Int) = i := Int.toNat_of_nonneg h0
  rw [← e]
  exact atI_nat h
theorem es_ixL {xs : List α} {i : Int} {x : α} (x0 : Ex B H) (ha : EvE (eL E) ta σ B H xs) (hb : EvE eI tb σ B H i) (h0 : 0 ≤ i) (hx : xs[i.toNat]? = some x) : EvE E (tOp (rIxL K) ta tb) σ B H x :=
  es_op x0 ha hb fun v w B2 H2 x2 hv hw => by
    obtain ⟨a, vs, h1, h2, h3⟩ := hv
    obtain ⟨u, h4, h5⟩ := pget h3 hx
    exact ⟨u, h5, fun Q q => ⟨a, vs, i, u, h1, hw, SqL.of (x2 _ _ h2), atI_of h0 h4, q⟩⟩
theorem es_ixT {xs : List α} {i : Int} {x : α} (x0 : Ex B H) (ha : EvE (eT E) ta σ B H xs) (hb : EvE eI tb σ B H i) (h0 : 0 ≤ i) (hx : xs[i.toNat]? = some x) : EvE E (tOp (rIxT K) ta tb) σ B H x :=
  es_op x0 ha hb fun v w B2 H2 x2 hv hw => by
    obtain ⟨a, vs, h1, h2, h3⟩ := hv
    obtain ⟨u, h4, h5⟩ := pget h3 hx
    exact ⟨u, h5, fun Q q => ⟨a, vs, i, u, h1, hw, SqT.of (x2 _ _ h2), atI_of h0 h4, q⟩⟩
theorem es_tix {E' : Enc δ} {t : δ} {i : Nat} {x : α} (x0 : Ex B H) (ha : EvE E' ta σ B H t) (hx : ∀ B2 v, E'.R B2 v t → ∃ a us u, v = .ref a ∧ B2 a = some (.tup us) ∧ us[i]? = some u ∧ E.R B2 u x) : EvE E (tOp (rIxT K) ta (tC (.int (i : Int)))) σ B H x :=
  es_op x0 ha (es_int x0) fun v w B2 H2 x2 hv hw => by
    obtain ⟨a, us, u, h1, h2, h3, h4⟩ := hx B2 v hv
    exact ⟨u, h4, fun Q q => ⟨a, us, (i : Int), u, h1, hw, SqT.of (x2 _ _ h2), atI_nat h3, q⟩⟩
theorem es_20 {t : α × β} (x0 : Ex B H) (ha : EvE (e2 E F) ta σ B H t) : EvE E (tOp (rIxT K) ta (tC (.int 0))) σ B H t.1 := es_tix (i := 0) x0 ha fun B2 v ⟨a, u, w, h1, h2, h3, h4⟩ => ⟨a, _, u, h1, h2, rfl, h3⟩
theorem es_21 {t : α × β} (x0 : Ex B H) (ha : EvE (e2 E F) ta σ B H t) : EvE F (tOp (rIxT K) ta (tC (.int 1))) σ B H t.2 := es_tix (i := 1) x0 ha fun B2 v ⟨a, u, w, h1, h2, h3, h4⟩ => ⟨a, _, w, h1, h2, rfl, h4⟩
theorem es_30 {t : α × β × γ} (x0 : Ex B H) (ha : EvE (e3 E F G) ta σ B H t) : EvE E (tOp (rIxT K) ta (tC (.int 0))) σ B H t.1 := es_tix (i := 0) x0 ha fun B2 v ⟨a, u, w, z, h1, h2, h3, h4, h5⟩ => ⟨a, _, u, h1, h2, rfl, h3⟩
theorem es_31 {t : α × β × γ} (x0 : Ex B H) (ha : EvE (e3 E F G) ta σ B H t) : EvE F (tOp (rIxT K) ta (tC (.int 1))) σ B H t.2.1 := es_tix (i := 1) x0 ha fun B2 v ⟨a, u, w, z, h1, h2, h3, h4, h5⟩ => ⟨a, _, w, h1, h2, rfl, h4⟩
theorem es_32 {t : α × β × γ} (x0 : Ex B H) (ha : EvE (e3 E F G) ta σ B H t) : EvE G (tOp (rIxT K) ta (tC (.int 2))) σ B H t.2.2 := es_tix (i := 2) x0 ha fun B2 v ⟨a, u, w, z, h1, h2, h3, h4, h5⟩ => ⟨a, _, z, h1, h2, rfl, h5⟩
theorem es_H0 {t : Int × Int} (x0 : Ex B H) (ha : EvE eH ta σ B H t) : EvE eI (tOp (rIxT K) ta (tC (.int 0))) σ B H t.1 := es_tix (i := 0) x0 ha fun B2 v ⟨a, r, h1, h2⟩ => ⟨a, _, _, h1, h2, rfl, rfl⟩
theorem es_H1 {t : Int × Int} (x0 : Ex B H) (ha : EvE eH ta σ B H t) : EvE eI (tOp (rIxT K) ta (tC (.int 1))) σ B H t.2 := es_tix (i := 1) x0 ha fun B2 v ⟨a, r, h1, h2⟩ => ⟨a, _, _, h1, h2, rfl, rfl⟩

/-! ### in -/
theorem eqV_int (x y : Int) : eqV (V.int x) (V.int y) = decide (x = y) := by
  unfold eqV
  first
    | rfl
    | (by_cases h : x = y <;> simp [h])
theorem inV_ints (x : Int) : ∀ ns : List Int, inV (V.int x) (ns.map V.int) = decide (x ∈ ns)
  | [] => by simp [inV]
  | n :: r => by
    have ih := inV_ints x r
    unfold inV at ih ⊢
    rw [List.map_cons, List.any_cons, ih, eqV_int]
    by_cases h : n = x
    · subst h
      simp
    · have h' : ¬ x = n := fun q => h q.symm
      simp [h, h']
theorem flat_ints : ∀ ns : List Int, (ns.map V.int).all flatV = true
  | [] => rfl
  | _ :: r => by
    rw [List.map_cons, List.all_cons, flat_ints r]
    rfl
theorem es_inT {x : Int} {ns : List Int} (x0 : Ex B H) (ha : EvE eI ta σ B H x) (hb : EvE (eT eI) tb σ B H ns) : EvE eB (tOp (rIn K false) ta tb) σ B H (decide (x ∈ ns)) :=
  es_op x0 ha hb fun v w B2 H2 x2 hv hw => ⟨_, rfl, fun Q q => by
    cases hv
    obtain ⟨a, h1, h2⟩ := eTI hw
    exact ⟨a, _, h1, .inr (SqT.of (x2 _ _ h2)), rfl, flat_ints ns, by rw [inV_ints]; exact q⟩⟩
theorem es_ninT {x : Int} {ns : List Int} (x0 : Ex B H) (ha : EvE eI ta σ B H x) (hb : EvE (eT eI) tb σ B H ns) : EvE eB (tOp (rIn K true) ta tb) σ B H (!decide (x ∈ ns)) :=
  es_op x0 ha hb fun v w B2 H2 x2 hv hw => ⟨_, rfl, fun Q q => by
    cases hv
    obtain ⟨a, h1, h2⟩ := eTI hw
    exact ⟨a, _, h1, .inr (SqT.of (x2 _ _ h2)), rfl, flat_ints ns, by rw [inV_ints]; exact q⟩⟩
theorem es_inL {x : Int} {ns : List Int} (x0 : Ex B H) (ha : EvE eI ta σ B H x) (hb : EvE (eL eI) tb σ B H ns) : EvE eB (tOp (rIn K false) ta tb) σ B H (decide (x ∈ ns)) :=
  es_op x0 ha hb fun v w B2 H2 x2 hv hw => ⟨_, rfl, fun Q q => by
    cases hv
    obtain ⟨a, h1, h2⟩ := eLI hw
    exact ⟨a, _, h1, .inl (SqL.of (x2 _ _ h2)), rfl, flat_ints ns, by rw [inV_ints]; exact q⟩⟩
theorem es_ninL {x : Int} {ns : List Int} (x0 : Ex B H) (ha : EvE eI ta σ B H x) (hb : EvE (eL eI) tb σ B H ns) : EvE eB (tOp (rIn K true) ta tb) σ B H (!decide (x ∈ ns)) :=
  es_op x0 ha hb fun v w B2 H2 x2 hv hw => ⟨_, rfl, fun Q q => by
    cases hv
    obtain ⟨a, h1, h2⟩ := eLI hw
    exact ⟨a, _, h1, .inl (SqL.of (x2 _ _ h2)), rfl, flat_ints ns, by rw [inV_ints]; exact q⟩⟩
/-- a dict's keys -/
theorem val_keys {x : Int} : ∀ {kvs : List (Key × V)} {ks : List Int}, kvs.map (·.1) = ks.map Sum.inl → (valV kvs (Sum.inl x)).isSome = decide (x ∈ ks)
  | [], [], _ => rfl
  | [], _ :: _, h => by cases h
  | _ :: _, [], h => by cases h
  | p :: r, k :: ks, h => by
    rw [List.map_cons, List.map_cons] at h
    obtain ⟨h1, h2⟩ := List.cons.inj h
    have ih := val_keys (x := x) h2
    by_cases e : k = x
    · subst e
      rw [valV_pos h1]
      simp
    · have e' : ¬ p.1 = Sum.inl x := fun q => e (Sum.inl.inj (h1.symm.trans q))
      have e2 : ¬ x = k := fun q => e q.symm
      rw [valV_neg e', ih]
      simp [e2]
theorem es_din {x : Int} {ks : List Int} (x0 : Ex B H) (ha : EvE eI ta σ B H x) (hb : EvE eD tb σ B H ks) : EvE eB (tDIn ta tb) σ B H (decide (x ∈ ks)) := fun H1 e Q k =>
  ha H1 e _ fun v x' B2 H2 t hx hR => by
    cases hx
    exact hb.up ((Stp.go x0 e).trans t) H2 (Ex.refl _) _ fun w y' B3 H3 t2 hy hR2 => by
      cases hy
      cases hR
      obtain ⟨a, kvs, h1, h2, h3⟩ := hR2
      exact ⟨a, _, h1, DGet.k (k := Sum.inl x) (t2.bh _ _ h2), by rw [val_keys h3]; exact k _ _ B3 H3 (t.trans t2) rfl rfl⟩
theorem es_dnotin {x : Int} {ks : List Int} (x0 : Ex B H) (ha : EvE eI ta σ B H x) (hb : EvE eD tb σ B H ks) : EvE eB (tDNotIn ta tb) σ B H (!decide (x ∈ ks)) := fun H1 e Q k =>
  ha H1 e _ fun v x' B2 H2 t hx hR => by
    cases hx
    exact hb.up ((Stp.go x0 e).trans t) H2 (Ex.refl _) _ fun w y' B3 H3 t2 hy hR2 => by
      cases hy
      cases hR
      obtain ⟨a, kvs, h1, h2, h3⟩ := hR2
      exact ⟨a, _, h1, DGet.k (k := Sum.inl x) (t2.bh _ _ h2), by rw [val_keys h3]; exact k _ _ B3 H3 (t.trans t2) rfl rfl⟩

/-! ### arguments, displays -/
def aN : Hp → List V → Prop := fun _ vs => vs = []
def aC (E : Enc α) (S : α → Prop) (A : Hp → List V → Prop) : Hp → List V → Prop := fun B vs => ∃ v x r, vs = v :: r ∧ S x ∧ E.R B v x ∧ A B r
def EvAr (ta : TA) (σ : L2.St) (B H : Hp) (A : Hp → List V → Prop) : Prop := ∀ H1, Ex H H1 → ∀ Q : List V → Hp → Prop, (∀ vs B2 H2, Stp B H1 B2 H2 → A B2 vs → Q vs H2) → ta σ H1 Q
def MonoA (A : Hp → List V → Prop) : Prop := ∀ (B B' : Hp) (vs : List V), Ex B B' → A B vs → A B' vs
theorem mono_aN : MonoA aN := fun _ _ _ _ h => h
theorem mono_aC {A : Hp → List V → Prop} (m : MonoA A) : MonoA (aC E S A) := fun _ _ _ e ⟨v, x, r, h1, h2, h3, h4⟩ => ⟨v, x, r, h1, h2, E.up e h3, m _ _ _ e h4⟩
variable {ar : TA} {A : Hp → List V → Prop}
theorem ea_n (x0 : Ex B H) : EvAr tNil σ B H aN := fun H1 e Q k => k [] B H1 (Stp.refl (x0.trans e)) rfl
theorem ea_c (x0 : Ex B H) (m : MonoA A) (h : EvS E te σ B H S) (hr : EvAr ar σ B H A) : EvAr (tCons te ar) σ B H (aC E S A) := fun H1 e Q k =>
  h H1 e _ fun v x B2 H2 t hS hR => by
    have s := (Stp.go x0 e).trans t
    exact hr H2 s.eh _ fun vs B3 H3 t2 hA => k (v :: vs) (jn B2 B3) H3 (t.trans (s.join (Ex.refl _) t2)) ⟨v, x, vs, rfl, hS, E.up jn_l hR, m _ _ _ (jn_r ((t.bh.trans t2.eh)) t2.bh) hA⟩
/-- all of one kind, exactly -/
theorem ea_nil' (x0 : Ex B H) : EvAr tNil σ B H (fun B vs => Paired (E.R B) vs ([] : List α)) := fun H1 e Q k => k [] B H1 (Stp.refl (x0.trans e)) .nil
theorem ea_cons' {x : α} {xs : List α} (x0 : Ex B H) (h : EvE E te σ B H x) (hr : EvAr ar σ B H (fun B vs => Paired (E.R B) vs xs)) : EvAr (tCons te ar) σ B H (fun B vs => Paired (E.R B) vs (x :: xs)) := fun H1 e Q k =>
  h H1 e _ fun v x B2 H2 t hS hR => by
    cases hS
    have s := (Stp.go x0 e).trans t
    exact hr H2 s.eh _ fun vs B3 H3 t2 hA => k (v :: vs) (jn B2 B3) H3 (t.trans (s.join (Ex.refl _) t2)) (.cons (E.up jn_l hR) (E.ups (jn_r ((t.bh.trans t2.eh)) t2.bh) hA))
theorem pl {R : V → α → Prop} {vs : List V} {xs : List α} (p : Paired R vs xs) : vs.length = xs.length := Paired.length p
theorem em_lst {xs : List α} (h : EvAr ar σ B H (fun B vs => Paired (E.R B) vs xs)) (hz : xs.length ≤ 100000) : EvM E (tLst ar) σ B H (fun ys => ys = xs) := fun H1 e Q k =>
  h H1 e _ fun vs B2 H2 t hA => ⟨sz_of (by rw [pl hA]; exact hz), fun p hp => k p vs xs B2 _ (t.trans (Stp.go t.bh (Ex.new hp))) (fresh_back t.eh hp) (fresh_back t.bh hp) upd_same rfl hA⟩
theorem em_nil (x0 : Ex B H) : EvM E (tLst tNil) σ B H (fun ys => ys = []) := em_lst (ea_nil' x0) (Nat.zero_le _)
theorem es_tupT {xs : List α} (h : EvAr ar σ B H (fun B vs => Paired (E.R B) vs xs)) (hz : xs.length ≤ 100000) : EvE (eT E) (tTup ar) σ B H xs := fun H1 e Q k =>
  h H1 e _ fun vs B2 H2 t hA => ⟨sz_of (by rw [pl hA]; exact hz), fun p hp => k (.ref p) xs (upd B2 p (.tup vs)) _ (t.trans (Stp.new t.bh hp)) rfl ⟨p, vs, rfl, upd_same, E.ups (Ex.new (fresh_back t.bh hp)) hA⟩⟩
theorem es_tup2 {T : β → Prop} (x0 : Ex B H) (ha : EvS E ta σ B H S) (hb : EvS F tb σ B H T) : EvS (e2 E F) (tTup (tCons ta (tCons tb tNil))) σ B H (fun p => S p.1 ∧ T p.2) := fun H1 e Q k =>
  ea_c (S := S) x0 (mono_aC mono_aN) ha (ea_c (S := T) x0 mono_aN hb (ea_n x0)) H1 e _ fun vs B2 H2 t hA => by
    obtain ⟨v, x, r, rfl, hS, hx, w, y, r', rfl, hT, hy, rfl⟩ := hA
    exact ⟨by show 2 ≤ sizeLine; decide, fun p hp => k (.ref p) (x, y) (upd B2 p (.tup [v, w])) _ (t.trans (Stp.new t.bh hp)) ⟨hS, hT⟩ ⟨p, v, w, rfl, upd_same, E.up (Ex.new (fresh_back t.bh hp)) hx, F.up (Ex.new (fresh_back t.bh hp)) hy⟩⟩
theorem es_tup3 {T : β → Prop} {U : γ → Prop} (x0 : Ex B H) (ha : EvS E ta σ B H S) (hb : EvS F tb σ B H T) (hc : EvS G tc σ B H U) : EvS (e3 E F G) (tTup (tCons ta (tCons tb (tCons tc tNil)))) σ B H (fun p => S p.1 ∧ T p.2.1 ∧ U p.2.2) := fun H1 e Q k =>
  ea_c x0 (mono_aC (mono_aC mono_aN)) ha (ea_c x0 (mono_aC mono_aN) hb (ea_c x0 mono_aN hc (ea_n x0))) H1 e _ fun vs B2 H2 t hA => by
    obtain ⟨v, x, r, rfl, hS, hx, w, y, r', rfl, hT, hy, u, z, r'', rfl, hU, hz, rfl⟩ := hA
    exact ⟨by show 3 ≤ sizeLine; decide, fun p hp => k (.ref p) (x, y, z) (upd B2 p (.tup [v, w, u])) _ (t.trans (Stp.new t.bh hp)) ⟨hS, hT, hU⟩ ⟨p, v, w, u, rfl, upd_same, E.up (Ex.new (fresh_back t.bh hp)) hx, F.up (Ex.new (fresh_back t.bh hp)) hy, G.up (Ex.new (fresh_back t.bh hp)) hz⟩⟩

/-! ### calls -/
/-- a def's promise: arguments that stand for an i with Pre i; it tells what stands for some y with Post i y, and changes nothing -/
def Spec {ι : Type} (A : ι → Hp → List V → Prop) (Pre : ι → Prop) (F : Enc β) (Post : ι → β → Prop) : Sp := fun vs H Q _ => ∃ (i : ι) (B : Hp), Ex B H ∧ A i B vs ∧ Pre i ∧ ∀ w y B2 H2, Stp B H B2 H2 → Post i y → F.R B2 w y → Q w H2
def SpecM {ι : Type} (A : ι → Hp → List V → Prop) (Pre : ι → Prop) (F : Enc β) (Post : ι → List β → Prop) : Sp := fun vs H Q _ => ∃ (i : ι) (B : Hp), Ex B H ∧ A i B vs ∧ Pre i ∧ ∀ p ws ys B2 H2, Stp B H B2 H2 → H p = none → B2 p = none → H2 p = some (.lst ws) → Post i ys → Paired (F.R B2) ws ys → Q (.ref p) H2
abbrev ar1 (E : Enc α) (x : α) : Hp → List V → Prop := aC E (fun y => y = x) aN
abbrev ar2 (E : Enc α) (F : Enc β) (x : α × β) : Hp → List V → Prop := aC E (fun y => y = x.1) (aC F (fun y => y = x.2) aN)
abbrev ar3 (E : Enc α) (F : Enc β) (G : Enc γ) (x : α × β × γ) : Hp → List V → Prop := aC E (fun y => y = x.1) (aC F (fun y => y = x.2.1) (aC G (fun y => y = x.2.2) aN))
abbrev ar4 (E : Enc α) (F : Enc β) (G : Enc γ) (D : Enc δ) (x : α × β × γ × δ) : Hp → List V → Prop := aC E (fun y => y = x.1) (aC F (fun y => y = x.2.1) (aC G (fun y => y = x.2.2.1) (aC D (fun y => y = x.2.2.2) aN)))
abbrev ar5 (E : Enc α) (F : Enc β) (G : Enc γ) (D : Enc δ) (C : Enc ε) (x : α × β × γ × δ × ε) : Hp → List V → Prop := aC E (fun y => y = x.1) (aC F (fun y => y = x.2.1) (aC G (fun y => y = x.2.2.1) (aC D (fun y => y = x.2.2.2.1) (aC C (fun y => y = x.2.2.2.2) aN))))
theorem es_call {ι : Type} {A : ι → Hp → List V → Prop} {Pre : ι → Prop} {Post : ι → β → Prop} {X : XK} (i : ι) (x0 : Ex B H) (h : EvAr ar σ B H (A i)) (p : Pre i) : EvS F (tCall (Spec A Pre F Post) [] X ar) σ B H (Post i) := fun H1 e Q k =>
  h H1 e _ fun vs B2 H2 t hA => ⟨i, B2, t.bh, by rw [List.append_nil]; exact hA, p, fun w y B3 H3 t2 hy hR => k w y B3 H3 (t.trans t2) hy hR⟩
theorem em_call {ι : Type} {A : ι → Hp → List V → Prop} {Pre : ι → Prop} {Post : ι → List β → Prop} {X : XK} (i : ι) (x0 : Ex B H) (h : EvAr ar σ B H (A i)) (p : Pre i) : EvM F (tCall (SpecM A Pre F Post) [] X ar) σ B H (Post i) := fun H1 e Q k =>
  h H1 e _ fun vs B2 H2 t hA => ⟨i, B2, t.bh, by rw [List.append_nil]; exact hA, p, fun p ws ys B3 H3 t2 hp bp hl hy hR => k p ws ys B3 H3 (t.trans t2) (fresh_back t.eh hp) bp hl hy hR⟩
/-- a built-in's call, one argument -/
theorem es_cb1 {r : List V → Hp → VK → Prop} {x : α} {P : γ → Prop} (x0 : Ex B H) (h : EvE E ta σ B H x) (hr : ∀ v B2 H2, Ex B2 H2 → E.R B2 v x → ∀ Q : VK, (∀ z c B3 H3, Stp B2 H2 B3 H3 → P c → G.R B3 z c → Q z H3) → r [v] H2 Q) : EvS G (tCB r (tCons ta tNil)) σ B H P := fun H1 e Q k =>
  h H1 e _ fun v x' B2 H2 t hS hR => by
    cases hS
    exact hr v B2 H2 t.bh hR Q fun z c B3 H3 t2 hc hz => k z c B3 H3 (t.trans t2) hc hz
theorem es_cb2 {r : List V → Hp → VK → Prop} {x : α} {y : β} {P : γ → Prop} (x0 : Ex B H) (h : EvE E ta σ B H x) (h2 : EvE F tb σ B H y)
    (hr : ∀ v w B2 H2, Ex B2 H2 → E.R B2 v x → F.R B2 w y → ∀ Q : VK, (∀ z c B3 H3, Stp B2 H2 B3 H3 → P c → G.R B3 z c → Q z H3) → r [v, w] H2 Q) : EvS G (tCB r (tCons ta (tCons tb tNil))) σ B H P := fun H1 e Q k =>
  h H1 e _ fun v x' B2 H2 t hS hR => by
    cases hS
    exact h2.up ((Stp.go x0 e).trans t) H2 (Ex.refl _) _ fun w y' B3 H3 t2 hy hR2 => by
      cases hy
      exact hr v w B3 H3 t2.bh (E.up t2.eb hR) hR2 Q fun z c B4 H4 t3 hc hz => k z c B4 H4 ((t.trans t2).trans t3) hc hz
theorem em_cb1 {r : List V → Hp → VK → Prop} {x : α} {P : List γ → Prop} (x0 : Ex B H) (h : EvE E ta σ B H x) (hr : ∀ v B2 H2, Ex B2 H2 → E.R B2 v x → ∀ Q : VK, (∀ p ws, (∃ ys, P ys ∧ Paired (G.R B2) ws ys) → H2 p = none → Q (.ref p) (upd H2 p (.lst ws))) → r [v] H2 Q) : EvM G (tCB r (tCons ta tNil)) σ B H P := fun H1 e Q k =>
  h H1 e _ fun v x' B2 H2 t hS hR => by
    cases hS
    exact hr v B2 H2 t.bh hR Q fun p ws ⟨ys, hP, hy⟩ hp => k p ws ys B2 _ (t.trans (Stp.go t.bh (Ex.new hp))) (fresh_back t.eh hp) (fresh_back t.bh hp) upd_same hP hy
def rListS' (K : PySem.W.Frag) : List V → Hp → VK → Prop := fun xs H Q => ∃ p ys, xs = [V.ref p] ∧ (SqL K H p ys ∨ SqT K H p ys) ∧ ∀ l, H l = none → Q (.ref l) (upd H l (.lst ys))
def rTupS' (K : PySem.W.Frag) : List V → Hp → VK → Prop := fun xs H Q => ∃ p ys, xs = [V.ref p] ∧ ((SqL K H p ys ∧ ∀ l, H l = none → Q (.ref l) (upd H l (.tup ys))) ∨ (SqT K H p ys ∧ Q (.ref p) H))
def rLenD' : List V → Hp → VK → Prop := fun xs H Q => ∃ a kvs, xs = [V.ref a] ∧ H a = some (.dK kvs) ∧ Q (.int kvs.length) H
section
variable {X : Cx}
theorem cl_len : CallR X (.builtin "len") (rLenS X.K) := call_len_seq
theorem cl_list : CallR X (.type "list") (rListS' X.K) := call_list_of
theorem cl_tuple : CallR X (.type "tuple") (rTupS' X.K) := call_tuple_of
theorem cl_lenD : CallR X (.builtin "len") rLenD' := call_lenD
end
theorem es_lenL {xs : List α} (x0 : Ex B H) (h : EvE (eL E) ta σ B H xs) : EvE eI (tCB (rLenS K) (tCons ta tNil)) σ B H (xs.length : Int) :=
  es_cb1 x0 h fun v B2 H2 x2 ⟨a, vs, h1, h2, h3⟩ Q k => ⟨a, vs, by rw [h1], .inl (SqL.of (x2 _ _ h2)), by rw [pl h3]; exact k _ _ B2 H2 (Stp.refl x2) rfl rfl⟩
theorem es_lenT {xs : List α} (x0 : Ex B H) (h : EvE (eT E) ta σ B H xs) : EvE eI (tCB (rLenS K) (tCons ta tNil)) σ B H (xs.length : Int) :=
  es_cb1 x0 h fun v B2 H2 x2 ⟨a, vs, h1, h2, h3⟩ Q k => ⟨a, vs, by rw [h1], .inr (SqT.of (x2 _ _ h2)), by rw [pl h3]; exact k _ _ B2 H2 (Stp.refl x2) rfl rfl⟩
theorem es_lenD {ks : List Int} (x0 : Ex B H) (h : EvE eD ta σ B H ks) : EvE eI (tCB rLenD' (tCons ta tNil)) σ B H (ks.length : Int) :=
  es_cb1 x0 h fun v B2 H2 x2 ⟨a, kvs, h1, h2, h3⟩ Q k => ⟨a, kvs, by rw [h1], x2 _ _ h2, by
    have e : kvs.length = ks.length := by
      have q := congrArg List.length h3
      rw [List.length_map, List.length_map] at q
      exact q
    rw [e]
    exact k _ _ B2 H2 (Stp.refl x2) rfl rfl⟩
theorem em_listL {xs : List α} (x0 : Ex B H) (h : EvE (eL E) ta σ B H xs) : EvM E (tCB (rListS' K) (tCons ta tNil)) σ B H (fun ys => ys = xs) :=
  em_cb1 x0 h fun v B2 H2 x2 ⟨a, vs, h1, h2, h3⟩ Q k => ⟨a, vs, by rw [h1], .inl (SqL.of (x2 _ _ h2)), fun l hl => k l vs ⟨xs, rfl, h3⟩ hl⟩
theorem em_listT {xs : List α} (x0 : Ex B H) (h : EvE (eT E) ta σ B H xs) : EvM E (tCB (rListS' K) (tCons ta tNil)) σ B H (fun ys => ys = xs) :=
  em_cb1 x0 h fun v B2 H2 x2 ⟨a, vs, h1, h2, h3⟩ Q k => ⟨a, vs, by rw [h1], .inr (SqT.of (x2 _ _ h2)), fun l hl => k l vs ⟨xs, rfl, h3⟩ hl⟩
theorem es_tupL {xs : List α} (x0 : Ex B H) (h : EvE (eL E) ta σ B H xs) : EvE (eT E) (tCB (rTupS' K) (tCons ta tNil)) σ B H xs :=
  es_cb1 x0 h fun v B2 H2 x2 ⟨a, vs, h1, h2, h3⟩ Q k => ⟨a, vs, by rw [h1], .inl ⟨SqL.of (x2 _ _ h2), fun l hl => k (.ref l) xs (upd B2 l (.tup vs)) _ (Stp.new x2 hl) rfl ⟨l, vs, rfl, upd_same, E.ups (Ex.new (fresh_back x2 hl)) h3⟩⟩⟩
theorem es_sum {ns : List Int} (x0 : Ex B H) (h : EvE (eL eI) ta σ B H ns) : EvE eI (tCB (rSum K) (tCons ta tNil)) σ B H ns.sum :=
  es_cb1 x0 h fun v B2 H2 x2 hR Q k => by
    obtain ⟨a, h1, h2⟩ := eLI hR
    exact ⟨a, ns, by rw [h1], SqL.of (x2 _ _ h2), k _ _ B2 H2 (Stp.refl x2) rfl rfl⟩
theorem es_min {ns : List Int} (x0 : Ex B H) (h : EvE (eL eI) ta σ B H ns) (hz : 0 < ns.length) : EvS eI (tCB (rMin K) (tCons ta tNil)) σ B H (fun m => m ∈ ns ∧ ∀ y ∈ ns, m ≤ y) :=
  es_cb1 x0 h fun v B2 H2 x2 hR Q k => by
    obtain ⟨a, h1, h2⟩ := eLI hR
    exact ⟨a, ns, by rw [h1], SqL.of (x2 _ _ h2), hz, fun m hm hle => k _ _ B2 H2 (Stp.refl x2) ⟨hm, hle⟩ rfl⟩
end
end RR
namespace RR
open PySem L2 Evl
section
variable {α β γ δ ε : Type} {E : Enc α} {F : Enc β} {G : Enc γ}
variable {te ta tb tc tl : TE} {tt : TT} {σ : L2.St} {B H B0 H0 B1 H1 : Hp} {S : α → Prop} {K : PySem.W.Frag}

/-! ### comprehensions -/
/-- what holds ahead of turn i: D is where the new list stands -/
def Lw (F : Enc β) (Tr : α → β → Prop) (p : α → Bool) (B1 H1 : Hp) (D : Addr) (xs : List α) (i : Nat) (H' : Hp) : Prop :=
  ∃ B' acc ys, Stp B1 H1 B' H' ∧ Cell H1 B' H' D (.lst acc) ∧ Paired (F.R B') acc ys ∧ Paired Tr ((xs.take i).filter p) ys ∧ acc.length ≤ i
theorem lw_start {Tr : α → β → Prop} {p : α → Bool} {D : Addr} {xs : List α} (x1 : Ex B1 H1) (hD : H1 D = none) : Lw F Tr p B1 H1 D xs 0 (upd H1 D (.lst [])) :=
  ⟨B1, [], [], Stp.go x1 (Ex.new hD), ⟨hD, fresh_back x1 hD, upd_same⟩, .nil, .nil, Nat.le_refl _⟩
theorem lw_turn {Tr : α → β → Prop} {p : α → Bool} {D : Addr} {xs : List α} {i : Nat} {H' : Hp} {x : α} {σ2 : L2.St} (hw : Lw F Tr p B1 H1 D xs i H') (hx : xs[i]? = some x) (hz : i < 50000)
    (ht : ∀ B' , Stp B1 H1 B' H' → EvT tt σ2 H' (p x)) (he : p x = true → ∀ B', Stp B1 H1 B' H' → EvS F te σ2 B' H' (Tr x)) :
    tt σ2 H' fun b H3 => if b = true then te σ2 H3 fun y H4 => ∃ acc, H4 D = some (.lst acc) ∧ acc.length < sizeLine ∧ Lw F Tr p B1 H1 D xs (i + 1) (upd H4 D (.lst (acc ++ [y]))) else Lw F Tr p B1 H1 D xs (i + 1) H3 := by
  obtain ⟨B', acc, ys, s, c, h1, h2, h3⟩ := hw
  refine ht B' s H' (Ex.refl _) _ fun H3 e3 => ?_
  have tk := take_succ_filter p xs i x hx
  cases hp : p x with
  | true =>
    rw [hp] at tk
    refine iteT (he hp B' s H3 e3 _ fun y yy B4 H4 t4 hT hR => ⟨acc, t4.eh _ _ (e3 _ _ c.h), sz_lt (by omega), B4, acc ++ [y], ys ++ [yy], ?_, ?_, ?_, ?_, ?_⟩)
    · exact ((c.go e3).up t4).mut ((s.goH e3).trans t4)
    · exact ((c.go e3).up t4).same
    · exact Paired.snoc (F.ups t4.eb h1) hR
    · rw [tk, if_pos rfl]
      exact Paired.snoc h2 hT
    · rw [List.length_append, List.length_singleton]
      omega
  | false =>
    rw [hp] at tk
    refine iteF ⟨B', acc, ys, s.goH e3, c.go e3, h1, ?_, by omega⟩
    rw [tk, if_neg Bool.false_ne_true, List.append_nil]
    exact h2
theorem em_lcL {xs : List α} {p : α → Bool} {Tr : α → β → Prop} {j : Nat} {vs : List Nat} (x0 : Ex B H) (h : EvE (eL E) tl σ B H xs) (hz : xs.length ≤ 40000)
    (hw : ∀ v, wipe ((wipe σ vs).set j (some v)) vs = wipe σ vs)
    (ht : ∀ x v B1 H1, Stp B H B1 H1 → x ∈ xs → E.R B1 v x → EvT tt ((wipe σ vs).set j (some v)) H1 (p x))
    (he : ∀ x v B1 H1, Stp B H B1 H1 → x ∈ xs → E.R B1 v x → p x = true → EvS F te ((wipe σ vs).set j (some v)) B1 H1 (Tr x)) :
    EvM F (tLc (iList K tl) (gName j) tt te vs) σ B H (fun ys => Paired Tr (xs.filter p) ys) := fun H0 e Q k =>
  h H0 e _ fun v x' B1 H1 t hx hR => by
    cases hx
    obtain ⟨a, ws, rfl, h2, h3⟩ := hR
    have s0 := (Stp.go x0 e).trans t
    refine ⟨a, rfl, ⟨ws, SqL.of (t.bh _ _ h2)⟩, fun D hD => lc_list (xs := ws) (Lw F Tr p B1 H1 D xs) (lw_start t.bh hD) (fun i H' hi hP => ?_) (fun i w H' hi hP => ?_) (fun H' hP => ?_)⟩
    · obtain ⟨B', acc, ys, s, _⟩ := hP
      exact SqL.of (s.bh _ _ (s.eb _ _ h2))
    · obtain ⟨x, hx, hr⟩ := pgetV h3 hi
      have hm : x ∈ xs := List.mem_of_getElem? hx
      exact ⟨hw w, lw_turn hP hx (by have := (List.getElem?_eq_some_iff.mp hx).1; omega) (fun B' s => ht x w B' H' (s0.trans s) hm (E.up s.eb hr)) (fun hp B' s => he x w B' H' (s0.trans s) hm (E.up s.eb hr) hp)⟩
    · obtain ⟨B', acc, ys, s, c, q1, q2, q3⟩ := hP
      rw [pl h3, List.take_length] at q2
      exact k D acc ys B' H' (t.trans s) (fresh_back t.eh hD) c.b c.h q2 q1
theorem em_lcT {xs : List α} {p : α → Bool} {Tr : α → β → Prop} {j : Nat} {vs : List Nat} (x0 : Ex B H) (h : EvE (eT E) tl σ B H xs) (hz : xs.length ≤ 40000)
    (hw : ∀ v, wipe ((wipe σ vs).set j (some v)) vs = wipe σ vs)
    (ht : ∀ x v B1 H1, Stp B H B1 H1 → x ∈ xs → E.R B1 v x → EvT tt ((wipe σ vs).set j (some v)) H1 (p x))
    (he : ∀ x v B1 H1, Stp B H B1 H1 → x ∈ xs → E.R B1 v x → p x = true → EvS F te ((wipe σ vs).set j (some v)) B1 H1 (Tr x)) :
    EvM F (tLc (iTup K tl) (gName j) tt te vs) σ B H (fun ys => Paired Tr (xs.filter p) ys) := fun H0 e Q k =>
  h H0 e _ fun v x' B1 H1 t hx hR => by
    cases hx
    obtain ⟨a, ws, rfl, h2, h3⟩ := hR
    have s0 := (Stp.go x0 e).trans t
    refine ⟨a, rfl, ⟨ws, SqT.of (t.bh _ _ h2)⟩, fun D hD => lc_tup (xs := ws) (Lw F Tr p B1 H1 D xs) (lw_start t.bh hD) (fun i H' hi hP => ?_) (fun i w H' hi hP => ?_) (fun H' hP => ?_)⟩
    · obtain ⟨B', acc, ys, s, _⟩ := hP
      exact SqT.of (s.bh _ _ (s.eb _ _ h2))
    · obtain ⟨x, hx, hr⟩ := pgetV h3 hi
      have hm : x ∈ xs := List.mem_of_getElem? hx
      exact ⟨hw w, lw_turn hP hx (by have := (List.getElem?_eq_some_iff.mp hx).1; omega) (fun B' s => ht x w B' H' (s0.trans s) hm (E.up s.eb hr)) (fun hp B' s => he x w B' H' (s0.trans s) hm (E.up s.eb hr) hp)⟩
    · obtain ⟨B', acc, ys, s, c, q1, q2, q3⟩ := hP
      rw [pl h3, List.take_length] at q2
      exact k D acc ys B' H' (t.trans s) (fresh_back t.eh hD) c.b c.h q2 q1
/-- over a list of ints that H knows (it may be one that changes) -/
theorem em_lcH {ns : List Int} {p : Int → Bool} {Tr : Int → β → Prop} {j : Nat} {vs : List Nat} (x0 : Ex B H) (h : EvE (eL eI) tl σ H H ns) (hz : ns.length ≤ 40000)
    (hw : ∀ v, wipe ((wipe σ vs).set j (some v)) vs = wipe σ vs)
    (ht : ∀ n B1 H1, Stp B H B1 H1 → n ∈ ns → EvT tt ((wipe σ vs).set j (some (.int n))) H1 (p n))
    (he : ∀ n B1 H1, Stp B H B1 H1 → n ∈ ns → p n = true → EvS F te ((wipe σ vs).set j (some (.int n))) B1 H1 (Tr n)) :
    EvM F (tLc (iList K tl) (gName j) tt te vs) σ B H (fun ys => Paired Tr (ns.filter p) ys) := fun H0 e Q k =>
  h H0 e _ fun v x' C1 H1 t hx hR => by
    cases hx
    obtain ⟨a, rfl, h2⟩ := eLI hR
    have e1 : Ex H H1 := e.trans t.eh
    have s0 : Stp B H B H1 := Stp.go x0 e1
    refine ⟨a, rfl, ⟨_, SqL.of (t.bh _ _ h2)⟩, fun D hD => lc_list (xs := ns.map V.int) (Lw F Tr p B H1 D ns) (lw_start (x0.trans e1) hD) (fun i H' hi hP => ?_) (fun i w H' hi hP => ?_) (fun H' hP => ?_)⟩
    · obtain ⟨B', acc, ys, s, _⟩ := hP
      exact SqL.of (s.eh _ _ (t.bh _ _ h2))
    · obtain ⟨n, hx, hr⟩ := pgetV (pI' (H := H) ns) hi
      cases hr
      have hm : n ∈ ns := List.mem_of_getElem? hx
      exact ⟨hw _, lw_turn hP hx (by have := (List.getElem?_eq_some_iff.mp hx).1; omega) (fun B' s => ht n B' H' (s0.trans s) hm) (fun hp B' s => he n B' H' (s0.trans s) hm hp)⟩
    · obtain ⟨B', acc, ys, s, c, q1, q2, q3⟩ := hP
      rw [List.length_map, List.take_length] at q2
      exact k D acc ys B' H' ((Stp.go (x0.trans e) t.eh).trans s) (fresh_back t.eh hD) c.b c.h q2 q1
/-- nought, one, .. below n -/
def rg (n : Int) : List Int := (List.range n.toNat).map fun (k : Nat) => (k : Int)
theorem rg_len (n : Int) : (rg n).length = n.toNat := by
  unfold rg
  rw [List.length_map, List.length_range]
theorem rg_get {n : Int} {i : Nat} (h : i < n.toNat) : (rg n)[i]? = some (i : Int) := by
  unfold rg
  rw [List.getElem?_map, List.getElem?_range h]
  rfl
theorem mem_rg {n k : Int} : k ∈ rg n ↔ 0 ≤ k ∧ k < n := by
  unfold rg
  rw [List.mem_map]
  constructor
  · rintro ⟨a, ha, rfl⟩
    rw [List.mem_range] at ha
    omega
  · rintro ⟨h0, h1⟩
    exact ⟨k.toNat, by rw [List.mem_range]; omega, by omega⟩
theorem em_lcR {n : Int} {p : Int → Bool} {Tr : Int → β → Prop} {j : Nat} {vs : List Nat} (x0 : Ex B H) (h : EvE eI tl σ B H n) (hz : n ≤ 40000) (hz' : -40000 ≤ n)
    (hw : ∀ v, wipe ((wipe σ vs).set j (some v)) vs = wipe σ vs)
    (ht : ∀ (k : Int) B1 H1, Stp B H B1 H1 → 0 ≤ k → k < n → EvT tt ((wipe σ vs).set j (some (.int k))) H1 (p k))
    (he : ∀ (k : Int) B1 H1, Stp B H B1 H1 → 0 ≤ k → k < n → p k = true → EvS F te ((wipe σ vs).set j (some (.int k))) B1 H1 (Tr k)) :
    EvM F (tLc (iRng1 (tCons tl tNil)) (gName j) tt te vs) σ B H (fun ys => Paired Tr ((rg n).filter p) ys) := fun H0 e Q k =>
  h H0 e _ fun v x' B1 H1 t hx hR => by
    cases hx
    cases hR
    have s0 := (Stp.go x0 e).trans t
    refine ⟨n, rfl, by omega, by omega, fun D hD => lc_range (lo := 0) (n := n.toNat) (Lw F Tr p B1 H1 D (rg n)) (lw_start t.bh hD) (fun i H' hi hP => ?_) (fun H' hP => ?_)⟩
    · have e0 : (0 : Int) + (i : Int) = (i : Int) := Int.zero_add _
      rw [e0]
      exact ⟨hw _, lw_turn hP (rg_get hi) (by omega) (fun B' s => ht i B' H' (s0.trans s) (by omega) (by omega)) (fun hp B' s => he i B' H' (s0.trans s) (by omega) (by omega) hp)⟩
    · obtain ⟨B', acc, ys, s, c, q1, q2, q3⟩ := hP
      rw [← rg_len n, List.take_length] at q2
      exact k D acc ys B' H' (t.trans s) (fresh_back t.eh hD) c.b c.h q2 q1
theorem et_yes {σ : L2.St} {H : Hp} : EvT tYes σ H true := fun H1 e Q q => q H1 (Ex.refl _)
theorem pair_fun {f : α → β} : ∀ {xs : List α} {ys : List β}, Paired (fun x y => y = f x) xs ys → ys = xs.map f
  | _, _, .nil => rfl
  | _, _, .cons r t => by
    rw [pair_fun t, r]
    rfl
theorem filter_yes (xs : List α) : xs.filter (fun _ => true) = xs := by
  induction xs with
  | nil => rfl
  | cons x r ih => rw [List.filter_cons, if_pos rfl, ih]

/-! ### slices, joins -/
def cutP (xs : List α) (lo hi : Option Int) : List α := (xs.drop (HT.sIx xs.length 0 lo)).take (HT.sIx xs.length xs.length hi - HT.sIx xs.length 0 lo)
theorem pcut {R : V → α → Prop} {vs : List V} {xs : List α} (lo hi : Option Int) (p : Paired R vs xs) : Paired R (cutV vs lo hi) (cutP xs lo hi) := by
  unfold cutV cutP
  rw [pl p]
  exact ptake _ (pdrop _ p)
def EvO' (to : TO) (σ : L2.St) (H : Hp) (o : Option Int) : Prop := EvO to σ H o
theorem em_slL {to1 to2 : TO} {xs : List α} {lo hi : Option Int} (x0 : Ex B H) (h : EvE (eL E) te σ B H xs) (h1 : EvO to1 σ H lo) (h2 : EvO to2 σ H hi) : EvM E (tSl (rSlL K) te to1 to2) σ B H (fun ys => ys = cutP xs lo hi) := fun H1 e Q k =>
  h H1 e _ fun v x' B2 H2 t hx hR => by
    cases hx
    obtain ⟨a, vs, rfl, q2, q3⟩ := hR
    refine h1 H2 (e.trans t.eh) _ fun H3 e3 => h2 H3 ((e.trans t.eh).trans e3) _ fun H4 e4 => ⟨a, vs, rfl, SqL.of (e4 _ _ (e3 _ _ (t.bh _ _ q2))), fun p hp => ?_⟩
    have s := t.goH (e3.trans e4)
    exact k p _ _ B2 _ (s.goH (Ex.new hp)) (fresh_back s.eh hp) (fresh_back s.bh hp) upd_same rfl (pcut lo hi q3)
theorem eo_some' {i : Int} (h : EvE eI te σ B H i) : EvO (tPart te) σ H (some i) := eo_some (ev_sI h)
theorem em_cat {xs ys : List α} (x0 : Ex B H) (ha : EvE (eL E) ta σ B H xs) (hb : EvE (eL E) tb σ B H ys) (hz : xs.length + ys.length ≤ 100000) : EvM E (tOp rCat ta tb) σ B H (fun zs => zs = xs ++ ys) := fun H1 e Q k =>
  ha H1 e _ fun v x' B2 H2 t hx hR => by
    cases hx
    exact hb.up ((Stp.go x0 e).trans t) H2 (Ex.refl _) _ fun w y' B3 H3 t2 hy hR2 => by
      cases hy
      obtain ⟨a, vs, rfl, q2, q3⟩ := hR
      obtain ⟨b, ws, rfl, q5, q6⟩ := hR2
      refine ⟨a, b, vs, ws, rfl, rfl, t2.bh _ _ (t2.eb _ _ q2), t2.bh _ _ q5, sz_of (by rw [pl q3, pl q6]; exact hz), fun p hp => ?_⟩
      have s := t.trans t2
      exact k p _ _ B3 _ (s.goH (Ex.new hp)) (fresh_back s.eh hp) (fresh_back s.bh hp) upd_same rfl (papp (E.ups t2.eb q3) q6)

/-! ### statements -/
variable {D : Ends} {tu tw tz : TS} {g : TG} {i : Nat}
theorem q_setI {n : Int} (h : EvE eI te σ B H n) (k : ∀ H1, Ex H H1 → tz D (σ.set i (some (.int n))) H1) : tSeq (tAsg te (gName i)) tz D σ H := q_asg (ev_sI h) k
theorem q_setB {b : Bool} (h : EvE eB te σ B H b) (k : ∀ H1, Ex H H1 → tz D (σ.set i (some (.bl b))) H1) : tSeq (tAsg te (gName i)) tz D σ H := q_asg (ev_sB h) k
theorem q_setS (h : EvS E te σ B H S) (k : ∀ v x B1 H1, Stp B H B1 H1 → S x → E.R B1 v x → tz D (σ.set i (some v)) H1) : tSeq (tAsg te (gName i)) tz D σ H :=
  h H (Ex.refl _) _ fun v x B1 H1 s hS hR => k v x B1 H1 s hS hR
theorem q_setM {S : List α → Prop} (h : EvM E te σ B H S) (k : ∀ p vs xs B1 H1, Stp B H B1 H1 → H p = none → B1 p = none → H1 p = some (.lst vs) → S xs → Paired (E.R B1) vs xs → tz D (σ.set i (some (.ref p))) H1) : tSeq (tAsg te (gName i)) tz D σ H :=
  h H (Ex.refl _) _ fun p vs xs B1 H1 s hp bp hl hS hR => k p vs xs B1 H1 s hp bp hl hS hR
theorem q_retS (h : EvS E te σ B H S) (k : ∀ v x B1 H1, Stp B H B1 H1 → S x → E.R B1 v x → D.rt v H1) : tRet te D σ H :=
  h H (Ex.refl _) _ fun v x B1 H1 s hS hR => k v x B1 H1 s hS hR
theorem q_retM {S : List α → Prop} (h : EvM E te σ B H S) (k : ∀ p vs xs B1 H1, Stp B H B1 H1 → H p = none → B1 p = none → H1 p = some (.lst vs) → S xs → Paired (E.R B1) vs xs → D.rt (.ref p) H1) : tRet te D σ H :=
  h H (Ex.refl _) _ fun p vs xs B1 H1 s hp bp hl hS hR => k p vs xs B1 H1 s hp bp hl hS hR
theorem q_dropS (h : EvS E te σ B H S) (k : ∀ v x B1 H1, Stp B H B1 H1 → S x → E.R B1 v x → tz D σ H1) : tSeq (tDrop te) tz D σ H :=
  h H (Ex.refl _) _ fun v x B1 H1 s hS hR => k v x B1 H1 s hS hR
/-- xs.append(e) of one's own list -/
theorem c_app {l : Addr} {xs : List V} (c : Cell H0 B H l (.lst xs)) (s0 : Stp B0 H0 B H) (ho : σ[i]? = some (some (.ref l))) (hz : xs.length < 100000) (h : EvS E te σ B H S)
    (k : ∀ v x B1 H1, Stp B0 H0 B1 H1 → Ex B B1 → Cell H0 B1 H1 l (.lst (xs ++ [v])) → (∀ p o, p ≠ l → Cell H0 B H p o → Cell H0 B1 H1 p o) → S x → E.R B1 v x → D.nx σ H1) :
    tDrop (tBM K "list" rAppend (tVar i) (tCons te tNil)) D σ H :=
  ⟨.ref l, ho, Or.inl ⟨rfl, xs, SqL.of c.h⟩, h H (Ex.refl _) _ fun v x B1 H1 s hS hR => ⟨l, xs, v, rfl, rfl, s.eh _ _ c.h, sz_lt hz,
    k v x B1 _ ((c.up s).mut (s0.trans s)) s.eb (c.up s).same (fun p o ne d => (d.up s).other ne) hS hR⟩⟩
theorem q_app {l : Addr} {xs : List V} (c : Cell H0 B H l (.lst xs)) (s0 : Stp B0 H0 B H) (ho : σ[i]? = some (some (.ref l))) (hz : xs.length < 100000) (h : EvS E te σ B H S)
    (k : ∀ v x B1 H1, Stp B0 H0 B1 H1 → Ex B B1 → Cell H0 B1 H1 l (.lst (xs ++ [v])) → (∀ p o, p ≠ l → Cell H0 B H p o → Cell H0 B1 H1 p o) → S x → E.R B1 v x → tz D σ H1) :
    tSeq (tDrop (tBM K "list" rAppend (tVar i) (tCons te tNil))) tz D σ H := c_app (D := { D with nx := tz D }) c s0 ho hz h k
/-- a loop over a list: W tells what holds ahead of each turn -/
theorem c_forL {T : List α → Prop} (h : EvS (eL E) tl σ B H T) (W : List α → Hp → Nat → L2.St → Hp → Prop)
    (h0 : ∀ xs B1 H1, Stp B H B1 H1 → T xs → W xs B1 0 σ H1) (hb : ∀ xs B1 i σ' H', W xs B1 i σ' H' → Ex B1 H')
    (hs : ∀ xs B1 i x v σ' H', T xs → Ex B B1 → xs[i]? = some x → E.R B1 v x → W xs B1 i σ' H' → g v σ' H' fun σ2 H2 => tu { D with nx := W xs B1 (i + 1), ct := W xs B1 (i + 1), bk := D.nx } σ2 H2)
    (hd : ∀ xs B1 σ' H', T xs → Ex B B1 → W xs B1 xs.length σ' H' → D.nx σ' H') : tFor (iList K tl) g tu D σ H :=
  h H (Ex.refl _) _ fun v xs B1 H1 s hT ⟨a, ws, e1, h2, h3⟩ => ⟨a, e1, ⟨ws, SqL.of (s.bh _ _ h2)⟩, for_list (xs := ws) (W xs B1) (h0 xs B1 H1 s hT) (fun i σ' H' _ p => SqL.of (hb _ _ _ _ _ p _ _ h2)) (fun i w σ' H' hi p => by
    obtain ⟨x, hx, hr⟩ := pgetV h3 hi
    exact hs xs B1 i x w σ' H' hT s.eb hx hr p) (fun σ' H' p => hd xs B1 σ' H' hT s.eb (by rw [← pl h3]; exact p))⟩
theorem q_forL {T : List α → Prop} (h : EvS (eL E) tl σ B H T) (W : List α → Hp → Nat → L2.St → Hp → Prop)
    (h0 : ∀ xs B1 H1, Stp B H B1 H1 → T xs → W xs B1 0 σ H1) (hb : ∀ xs B1 i σ' H', W xs B1 i σ' H' → Ex B1 H')
    (hs : ∀ xs B1 i x v σ' H', T xs → Ex B B1 → xs[i]? = some x → E.R B1 v x → W xs B1 i σ' H' → g v σ' H' fun σ2 H2 => tu { D with nx := W xs B1 (i + 1), ct := W xs B1 (i + 1), bk := tz D } σ2 H2)
    (hd : ∀ xs B1 σ' H', T xs → Ex B B1 → W xs B1 xs.length σ' H' → tz D σ' H') : tSeq (tFor (iList K tl) g tu) tz D σ H :=
  c_forL (D := { D with nx := tz D }) h W h0 hb hs hd
/-- over a list that B knows -/
theorem c_forE {xs : List α} (x0 : Ex B H) (h : ∃ v, Ev tl σ H v ∧ (eL E).R B v xs) (W : Nat → L2.St → Hp → Prop)
    (h0 : ∀ H1, Ex H H1 → W 0 σ H1) (hb : ∀ i σ' H', W i σ' H' → Ex B H')
    (hs : ∀ i x v σ' H', xs[i]? = some x → E.R B v x → W i σ' H' → g v σ' H' fun σ2 H2 => tu { D with nx := W (i + 1), ct := W (i + 1), bk := D.nx } σ2 H2)
    (hd : ∀ σ' H', W xs.length σ' H' → D.nx σ' H') : tFor (iList K tl) g tu D σ H := by
  obtain ⟨v, hv, a, ws, e1, h2, h3⟩ := h
  exact hv H (Ex.refl _) _ fun H1 e => ⟨a, e1, ⟨ws, SqL.of (e _ _ (x0 _ _ h2))⟩, for_list (xs := ws) W (h0 H1 e) (fun i σ' H' _ p => SqL.of (hb _ _ _ p _ _ h2)) (fun i w σ' H' hi p => by
    obtain ⟨x, hx, hr⟩ := pgetV h3 hi
    exact hs i x w σ' H' hx hr p) (fun σ' H' p => hd σ' H' (by rw [← pl h3]; exact p))⟩
theorem q_forE {xs : List α} (x0 : Ex B H) (h : ∃ v, Ev tl σ H v ∧ (eL E).R B v xs) (W : Nat → L2.St → Hp → Prop)
    (h0 : ∀ H1, Ex H H1 → W 0 σ H1) (hb : ∀ i σ' H', W i σ' H' → Ex B H')
    (hs : ∀ i x v σ' H', xs[i]? = some x → E.R B v x → W i σ' H' → g v σ' H' fun σ2 H2 => tu { D with nx := W (i + 1), ct := W (i + 1), bk := tz D } σ2 H2)
    (hd : ∀ σ' H', W xs.length σ' H' → tz D σ' H') : tSeq (tFor (iList K tl) g tu) tz D σ H :=
  c_forE (D := { D with nx := tz D }) x0 h W h0 hb hs hd
theorem c_forTE {xs : List α} (x0 : Ex B H) (h : ∃ v, Ev tl σ H v ∧ (eT E).R B v xs) (W : Nat → L2.St → Hp → Prop)
    (h0 : ∀ H1, Ex H H1 → W 0 σ H1) (hb : ∀ i σ' H', W i σ' H' → Ex B H')
    (hs : ∀ i x v σ' H', xs[i]? = some x → E.R B v x → W i σ' H' → g v σ' H' fun σ2 H2 => tu { D with nx := W (i + 1), ct := W (i + 1), bk := D.nx } σ2 H2)
    (hd : ∀ σ' H', W xs.length σ' H' → D.nx σ' H') : tFor (iTup K tl) g tu D σ H := by
  obtain ⟨v, hv, a, ws, e1, h2, h3⟩ := h
  exact hv H (Ex.refl _) _ fun H1 e => ⟨a, e1, ⟨ws, SqT.of (e _ _ (x0 _ _ h2))⟩, for_tup (xs := ws) W (h0 H1 e) (fun i σ' H' _ p => SqT.of (hb _ _ _ p _ _ h2)) (fun i w σ' H' hi p => by
    obtain ⟨x, hx, hr⟩ := pgetV h3 hi
    exact hs i x w σ' H' hx hr p) (fun σ' H' p => hd σ' H' (by rw [← pl h3]; exact p))⟩
/-- range(n) -/
theorem c_forR {n : Int} {j : Nat} (h : EvE eI te σ B H n) (hn : -100000 ≤ n ∧ n ≤ 100000) (W : Nat → L2.St → Hp → Prop)
    (h0 : ∀ H1, Ex H H1 → W 0 σ H1) (hs : ∀ (i : Nat) σ' H', (i : Int) < n → W i σ' H' → tu { D with nx := W (i + 1), ct := W (i + 1), bk := D.nx } (σ'.set j (some (.int (i : Int)))) H')
    (hd : ∀ σ' H', W n.toNat σ' H' → D.nx σ' H') : tFor (iRng1 (tCons te tNil)) (gName j) tu D σ H :=
  ev_sI h H (Ex.refl H) _ fun H1 e => ⟨n, rfl, by omega, by omega, for_range (lo := 0) (n := n.toNat) W (h0 H1 e) (fun i σ' H' hi p => by
    have e0 : (0 : Int) + (i : Int) = (i : Int) := Int.zero_add _
    show tu { D with nx := W (i + 1), ct := W (i + 1), bk := D.nx } (σ'.set j (some (.int ((0 : Int) + (i : Int))))) H'
    rw [e0]
    exact hs i σ' H' (by omega) p) hd⟩
theorem q_forR {n : Int} {j : Nat} (h : EvE eI te σ B H n) (hn : -100000 ≤ n ∧ n ≤ 100000) (W : Nat → L2.St → Hp → Prop)
    (h0 : ∀ H1, Ex H H1 → W 0 σ H1) (hs : ∀ (i : Nat) σ' H', (i : Int) < n → W i σ' H' → tu { D with nx := W (i + 1), ct := W (i + 1), bk := tz D } (σ'.set j (some (.int (i : Int)))) H')
    (hd : ∀ σ' H', W n.toNat σ' H' → tz D σ' H') : tSeq (tFor (iRng1 (tCons te tNil)) (gName j) tu) tz D σ H :=
  c_forR (D := { D with nx := tz D }) h hn W h0 hs hd
theorem c_forR2 {lo n : Int} {j : Nat} (h1 : EvE eI ta σ B H lo) (h : EvE eI te σ B H n) (hn : 0 ≤ lo ∧ lo ≤ 100000 ∧ -100000 ≤ n ∧ n ≤ 100000) (W : Nat → L2.St → Hp → Prop)
    (h0 : ∀ H1, Ex H H1 → W 0 σ H1) (hs : ∀ (i : Nat) σ' H', lo + (i : Int) < n → W i σ' H' → tu { D with nx := W (i + 1), ct := W (i + 1), bk := D.nx } (σ'.set j (some (.int (lo + (i : Int))))) H')
    (hd : ∀ σ' H', W (n - lo).toNat σ' H' → D.nx σ' H') : tFor (iRng2 (tCons ta (tCons te tNil))) (gName j) tu D σ H :=
  s_forR2 (ea_cons (ev_sI h1) (ea_cons (ev_sI h) ea_nil)) hn W h0 hs hd
theorem q_forR2' {lo n : Int} {j : Nat} (h1 : EvE eI ta σ B H lo) (h : EvE eI te σ B H n) (hn : 0 ≤ lo ∧ lo ≤ 100000 ∧ -100000 ≤ n ∧ n ≤ 100000) (W : Nat → L2.St → Hp → Prop)
    (h0 : ∀ H1, Ex H H1 → W 0 σ H1) (hs : ∀ (i : Nat) σ' H', lo + (i : Int) < n → W i σ' H' → tu { D with nx := W (i + 1), ct := W (i + 1), bk := tz D } (σ'.set j (some (.int (lo + (i : Int))))) H')
    (hd : ∀ σ' H', W (n - lo).toNat σ' H' → tz D σ' H') : tSeq (tFor (iRng2 (tCons ta (tCons te tNil))) (gName j) tu) tz D σ H :=
  c_forR2 (D := { D with nx := tz D }) h1 h hn W h0 hs hd
/-- enumerate: each turn a new pair -/
theorem for_enum {a : Addr} {xs : List V} {g : TG} {tb : TS} {D : Ends} {σ : L2.St} {H : Hp} (Pv : Nat → L2.St → Hp → Prop) (h0 : Pv 0 σ H) (hl : ∀ i σ H, i ≤ xs.length → Pv i σ H → SqL K H a xs)
    (hs : ∀ i x σ H p, xs[i]? = some x → Pv i σ H → H p = none → g (.ref p) σ (upd H p (.tup [.int (i : Nat), x])) fun σ2 H2 => tb { D with nx := Pv (i + 1), ct := Pv (i + 1), bk := D.nx } σ2 H2) (hd : ∀ σ H, Pv xs.length σ H → D.nx σ H) :
    ∃ W : Nat → Nat → L2.St → Hp → Prop, (∃ m, W 0 m σ H) ∧ ∀ i m σ H, W i m σ H →
      ((Ite K a).stop i H ∧ D.nx σ H) ∨ ((Ite K a).go i H ∧ ∃ N : L2.St → Hp → Prop, (∀ σ' H', N σ' H' → ∃ m', m' < m ∧ W (i + 1) m' σ' H') ∧ ∀ x H', (Ite K a).yld i H x H' → g x σ H' fun σ2 H2 => tb { D with nx := N, ct := N, bk := D.nx } σ2 H2) := by
  refine ⟨fun i m σ H => m = xs.length - i ∧ i ≤ xs.length ∧ Pv i σ H, ⟨xs.length, by simp, Nat.zero_le _, h0⟩, ?_⟩
  rintro i m σ H ⟨rfl, hi, p⟩
  have q := hl i σ H hi p
  by_cases hlt : i < xs.length
  · refine .inr ⟨⟨xs, xs[i], q, by simp [hlt]⟩, Pv (i + 1), fun σ' H' p' => ⟨xs.length - (i + 1), by omega, rfl, hlt, p'⟩, fun x H' y => ?_⟩
    obtain ⟨T, z, e1, hT, e2, y⟩ := y
    subst e1
    subst e2
    exact hs i z σ H T (y xs q) p hT
  · have e : i = xs.length := by omega
    subst e
    exact .inl ⟨⟨xs, q, Nat.le_refl _⟩, hd σ H p⟩
theorem c_forEn {xs : List α} {j l : Nat} (x0 : Ex B H) (h : ∃ v, Ev tl σ H v ∧ (eL E).R B v xs) (W : Nat → L2.St → Hp → Prop)
    (h0 : ∀ H1, Ex H H1 → W 0 σ H1) (hb : ∀ i σ' H', W i σ' H' → Ex B H')
    (hs : ∀ i x v σ' H' H2, xs[i]? = some x → E.R B v x → W i σ' H' → Ex H' H2 → tu { D with nx := W (i + 1), ct := W (i + 1), bk := D.nx } ((σ'.set j (some (.int (i : Int)))).set l (some v)) H2)
    (hd : ∀ σ' H', W xs.length σ' H' → D.nx σ' H') : tFor (iEnum K (tCons tl tNil)) (gTup K 2 (gCons (gName j) (gCons (gName l) gNil))) tu D σ H := by
  obtain ⟨v, hv, a, ws, e1, h2, h3⟩ := h
  exact hv H (Ex.refl _) _ fun H1 e => ⟨a, ws, by rw [e1], SqL.of (e _ _ (x0 _ _ h2)), for_enum (xs := ws) W (h0 H1 e) (fun i σ' H' _ p => SqL.of (hb _ _ _ p _ _ h2)) (fun i w σ' H' p hi hP hp => by
    obtain ⟨x, hx, hr⟩ := pgetV h3 hi
    exact ⟨p, _, rfl, SqT.of upd_same, rfl, _, _, rfl, _, _, rfl, rfl, hs i x w σ' H' _ hx hr hP (Ex.new hp)⟩) (fun σ' H' p => hd σ' H' (by rw [← pl h3]; exact p))⟩
theorem q_forEn {xs : List α} {j l : Nat} (x0 : Ex B H) (h : ∃ v, Ev tl σ H v ∧ (eL E).R B v xs) (W : Nat → L2.St → Hp → Prop)
    (h0 : ∀ H1, Ex H H1 → W 0 σ H1) (hb : ∀ i σ' H', W i σ' H' → Ex B H')
    (hs : ∀ i x v σ' H' H2, xs[i]? = some x → E.R B v x → W i σ' H' → Ex H' H2 → tu { D with nx := W (i + 1), ct := W (i + 1), bk := tz D } ((σ'.set j (some (.int (i : Int)))).set l (some v)) H2)
    (hd : ∀ σ' H', W xs.length σ' H' → tz D σ' H') : tSeq (tFor (iEnum K (tCons tl tNil)) (gTup K 2 (gCons (gName j) (gCons (gName l) gNil))) tu) tz D σ H :=
  c_forEn (D := { D with nx := tz D }) x0 h W h0 hb hs hd

/-! ### dicts of one's own: keys that are ints -/
theorem q_dnew (s0 : Stp B0 H0 B H) (k : ∀ p H1, H p = none → Ex H H1 → Stp B0 H0 B H1 → Cell H0 B H1 p (.dK []) → tz D (σ.set i (some (.ref p))) H1) : tSeq (tAsg tDNewK (gName i)) tz D σ H :=
  fun p hp => k p _ hp (Ex.new hp) (s0.goH (Ex.new hp)) ⟨fresh_back s0.eh hp, fresh_back s0.bh hp, upd_same⟩
def addK (ks : List Int) (x : Int) : List Int := if x ∈ ks then ks else ks ++ [x]
theorem keys_put {x : Int} {v : V} {kvs : List (Key × V)} {ks : List Int} (h : kvs.map (·.1) = ks.map Sum.inl) : (putK kvs (Sum.inl x) v).map (·.1) = (addK ks x).map Sum.inl := by
  unfold putK addK
  rw [valV_any, val_keys h]
  by_cases hx : x ∈ ks
  · rw [if_pos (decide_eq_true hx), if_pos hx, List.map_map, ← h]
    refine List.map_congr_left fun p _ => ?_
    show (if p.1 = Sum.inl x then (p.1, v) else p).1 = p.1
    split <;> rfl
  · rw [if_neg (by rw [decide_eq_false hx]; decide), if_neg hx, List.map_append, List.map_append, h]
    rfl
theorem c_dput {m : Addr} {kvs : List (Key × V)} {ks : List Int} {x : Int} {v : V} (c : Cell H0 B H m (.dK kvs)) (hk : kvs.map (·.1) = ks.map Sum.inl) (s0 : Stp B0 H0 B H) (hz : kvs.length < 100000)
    (hv : Ev te σ H v) (ho : σ[i]? = some (some (.ref m))) (hx : EvE eI ta σ B H x)
    (k : ∀ H1 kvs', Stp B0 H0 B H1 → Cell H0 B H1 m (.dK kvs') → kvs'.map (·.1) = (addK ks x).map Sum.inl → (∀ p o, p ≠ m → Cell H0 B H p o → Cell H0 B H1 p o) → D.nx σ H1) :
    sDPut (tVar i) ta te D σ H :=
  hv H (Ex.refl _) _ fun H1 e1 => ⟨.ref m, ho, ev_sI hx H1 e1 _ fun H2 e2 => ⟨m, _, rfl, DPut.k (k := Sum.inl x) (e2 _ _ (e1 _ _ c.h)) (sz_lt hz), by
    have e := e1.trans e2
    exact k _ _ ((c.go e).mut (s0.goH e)) (c.go e).same (keys_put hk) (fun p o ne d => (d.go e).other ne)⟩⟩
theorem q_dput {m : Addr} {kvs : List (Key × V)} {ks : List Int} {x : Int} {v : V} (c : Cell H0 B H m (.dK kvs)) (hk : kvs.map (·.1) = ks.map Sum.inl) (s0 : Stp B0 H0 B H) (hz : kvs.length < 100000)
    (hv : Ev te σ H v) (ho : σ[i]? = some (some (.ref m))) (hx : EvE eI ta σ B H x)
    (k : ∀ H1 kvs', Stp B0 H0 B H1 → Cell H0 B H1 m (.dK kvs') → kvs'.map (·.1) = (addK ks x).map Sum.inl → (∀ p o, p ≠ m → Cell H0 B H p o → Cell H0 B H1 p o) → tz D σ H1) :
    tSeq (sDPut (tVar i) ta te) tz D σ H := c_dput (D := { D with nx := tz D }) c hk s0 hz hv ho hx k
/-- {k: v} -/
theorem q_disp1 {x : Int} {v : V} (s0 : Stp B0 H0 B H) (hx : EvE eI ta σ B H x) (hv : Ev te σ H v) (k : ∀ p H1, H p = none → Ex H H1 → Stp B0 H0 B H1 → Cell H0 B H1 p (.dK [(Sum.inl x, v)]) → tz D (σ.set i (some (.ref p))) H1) :
    tSeq (tAsg (tDisp [(ta, te)]) (gName i)) tz D σ H := fun p hp => ev_sI hx _ (Ex.new hp) _ fun H1 e1 => hv H1 ((Ex.new hp).trans e1) _ fun H2 e2 =>
  ⟨e2 _ _ (e1 _ _ upd_same), [(Sum.inl x, v)], rfl, Nat.succ_le_succ (Nat.zero_le _), by
    have c : Cell H0 B H2 p (.dK []) := ⟨fresh_back s0.eh hp, fresh_back s0.bh hp, e2 _ _ (e1 _ _ upd_same)⟩
    have e : Ex H H2 := ((Ex.new hp).trans e1).trans e2
    exact k p _ hp (Ex.mut e hp) (c.mut (s0.goH e)) c.same⟩

/-! ### lists of one's own -/
/-- x = xs.pop() -/
theorem q_pop {l : Addr} {xs : List V} {y : V} {j : Nat} (c : Cell H0 B H l (.lst (xs ++ [y]))) (s0 : Stp B0 H0 B H) (ho : σ[i]? = some (some (.ref l)))
    (k : ∀ H1, Stp B0 H0 B H1 → Cell H0 B H1 l (.lst xs) → (∀ p o, p ≠ l → Cell H0 B H p o → Cell H0 B H1 p o) → tz D (σ.set j (some y)) H1) :
    tSeq (tAsg (tBM0 K "list" rPop (tVar i)) (gName j)) tz D σ H :=
  ⟨.ref l, ho, Or.inl ⟨rfl, _, SqL.of c.h⟩, l, xs ++ [y], y, rfl, rfl, c.h, by simp, by
    have e : (xs ++ [y]).dropLast = xs := by simp
    rw [e]
    exact k _ (c.mut s0) c.same (fun p o ne d => d.other ne)⟩
/-- xs[j] = e -/
theorem c_setL {l : Addr} {xs : List V} {j : Nat} {v : V} (c : Cell H0 B H l (.lst xs)) (s0 : Stp B0 H0 B H) (hv : Ev te σ H v) (ho : σ[i]? = some (some (.ref l))) (hj : EvE eI tb σ B H (j : Int)) (hz : j < xs.length)
    (k : ∀ H1, Stp B0 H0 B H1 → Cell H0 B H1 l (.lst (xs.set j v)) → (∀ p o, p ≠ l → Cell H0 B H p o → Cell H0 B H1 p o) → D.nx σ H1) : tAsg te (gSub (tVar i) tb rSetL) D σ H :=
  s_setL c.h hv (ev_var ho) (ev_sI hj) hz fun H1 e => k _ ((c.go e).mut (s0.goH e)) (c.go e).same (fun p o ne d => (d.go e).other ne)
theorem q_setL' {l : Addr} {xs : List V} {j : Nat} {v : V} (c : Cell H0 B H l (.lst xs)) (s0 : Stp B0 H0 B H) (hv : Ev te σ H v) (ho : σ[i]? = some (some (.ref l))) (hj : EvE eI tb σ B H (j : Int)) (hz : j < xs.length)
    (k : ∀ H1, Stp B0 H0 B H1 → Cell H0 B H1 l (.lst (xs.set j v)) → (∀ p o, p ≠ l → Cell H0 B H p o → Cell H0 B H1 p o) → tz D σ H1) : tSeq (tAsg te (gSub (tVar i) tb rSetL)) tz D σ H :=
  c_setL (D := { D with nx := tz D }) c s0 hv ho hj hz k
theorem c_rev {l : Addr} {xs : List V} (c : Cell H0 B H l (.lst xs)) (s0 : Stp B0 H0 B H) (ho : σ[i]? = some (some (.ref l)))
    (k : ∀ H1, Stp B0 H0 B H1 → Cell H0 B H1 l (.lst xs.reverse) → (∀ p o, p ≠ l → Cell H0 B H p o → Cell H0 B H1 p o) → D.nx σ H1) : tDrop (tBM0 K "list" rReverse (tVar i)) D σ H :=
  ⟨.ref l, ho, Or.inl ⟨rfl, _, SqL.of c.h⟩, l, xs, rfl, rfl, c.h, k _ (c.mut s0) c.same (fun p o ne d => d.other ne)⟩
theorem c_clear {l : Addr} {xs : List V} (c : Cell H0 B H l (.lst xs)) (s0 : Stp B0 H0 B H) (ho : σ[i]? = some (some (.ref l)))
    (k : ∀ H1, Stp B0 H0 B H1 → Cell H0 B H1 l (.lst []) → (∀ p o, p ≠ l → Cell H0 B H p o → Cell H0 B H1 p o) → D.nx σ H1) : tDrop (tBM0 K "list" rClear (tVar i)) D σ H :=
  ⟨.ref l, ho, Or.inl ⟨rfl, _, SqL.of c.h⟩, l, xs, rfl, rfl, c.h, k _ (c.mut s0) c.same (fun p o ne d => d.other ne)⟩
/-- a list of one's own, read -/
theorem cell_L {l : Addr} {vs : List V} {xs : List α} (c : Cell H0 B H l (.lst vs)) (hp : Paired (E.R H) vs xs) : (eL E).R H (.ref l) xs := ⟨l, vs, rfl, c.h, hp⟩
theorem cell_D {m : Addr} {kvs : List (Key × V)} {ks : List Int} (c : Cell H0 B H m (.dK kvs)) (hk : kvs.map (·.1) = ks.map Sum.inl) : eD.R H (.ref m) ks := ⟨m, kvs, rfl, c.h, hk⟩
/-- a new list of one's own becomes known -/
theorem cell_out {l : Addr} {vs : List V} {xs : List α} (c : Cell H0 B H l (.lst vs)) (s0 : Stp B0 H0 B H) (hp : Paired (E.R B) vs xs) : Stp B0 H0 (upd B l (.lst vs)) H ∧ (eL E).R (upd B l (.lst vs)) (.ref l) xs :=
  ⟨⟨s0.eb.trans (Ex.new c.b), s0.eh, fun a u q => by
    by_cases z : a = l
    · subst z
      rw [upd_same] at q
      cases q
      exact c.h
    · rw [upd_ne z] at q
      exact s0.bh a u q, fun a u q => by
    by_cases z : a = l
    · subst z
      exact .inr c.n
    · rw [upd_ne z] at q
      exact s0.nw a u q⟩, l, vs, rfl, upd_same, E.ups (Ex.new c.b) hp⟩
theorem cell_outD {m : Addr} {kvs : List (Key × V)} {ks : List Int} (c : Cell H0 B H m (.dK kvs)) (s0 : Stp B0 H0 B H) (hk : kvs.map (·.1) = ks.map Sum.inl) : Stp B0 H0 (upd B m (.dK kvs)) H ∧ eD.R (upd B m (.dK kvs)) (.ref m) ks :=
  ⟨⟨s0.eb.trans (Ex.new c.b), s0.eh, fun a u q => by
    by_cases z : a = m
    · subst z
      rw [upd_same] at q
      cases q
      exact c.h
    · rw [upd_ne z] at q
      exact s0.bh a u q, fun a u q => by
    by_cases z : a = m
    · subst z
      exact .inr c.n
    · rw [upd_ne z] at q
      exact s0.nw a u q⟩, m, kvs, rfl, upd_same, hk⟩
end
end RR
namespace RR
open PySem L2 Evl PyProof.Rows

/-! ### defs -/
def FunAt (K : PySem.W.Frag) (mg : Str → Option Value) (x : Str) (st : Stmt) : Prop := ∃ f fd, Fun K x x st f fd ∧ mg x = some (.ref f)
def DefOk (P : Program) (w : World) (K : PySem.W.Frag) (mg : Str → Option Value) (base : Heap) (k : Nat) (x : Str) (ps : List Str) (sp : Sp) : Prop :=
  ∃ f fd, FnOk P w K mg base CX0 k f fd ps sp ∧ mg x = some (.ref f) ∧ PySem.W.keepIn K (.ref f) = true ∧ Binds K fd ps []
def LenA (n : Nat) (A : Hp → List V → Prop) : Prop := ∀ B vs, A B vs → vs.length = n
theorem lenN : LenA 0 aN := fun _ _ h => by rw [show _ = [] from h]; rfl
theorem lenC {α : Type} {E : Enc α} {S : α → Prop} {A : Hp → List V → Prop} {n : Nat} (h : LenA n A) : LenA (n + 1) (aC E S A) := fun B vs ⟨v, x, r, e, _, _, ha⟩ => by
  rw [e, List.length_cons, h B r ha]
section
variable {P : Program} {w : World} {K : PySem.W.Frag} {mg : Str → Option Value} {base : Heap}
theorem mk_fn {ι β : Type} {A : ι → Hp → List V → Prop} {Pre : ι → Prop} {F : Enc β} {Post : ι → β → Prop} {x : Str} {st : Stmt} {N ps : List Str} {k : Nat} {f : Addr} {fd : FuncData} (F1 : Fun K x x st f fd) (S : FnScope N ps (defScope st))
    (hl : ∀ i, LenA ps.length (A i))
    (hbody : ∀ (cdv : Value) (A0 : Around) (outer : List Env) (s : Shared) (E : XK) (i : ι) (B H : Hp) (vs : List V) (Q : VK), Room k (A0.deeper (envOfC x (defScope st) s.heap.objs.size f cdv)) → Ex B H → A i B vs → Pre i →
      (∀ w y B2 H2, Stp B H B2 H2 → Post i y → F.R B2 w y → Q w H2) →
      ∃ t, PSs (cxOf CX0 P w K mg base N x (defScope st) f cdv A0 outer s H E).nox (defBody st) t ∧ t { nx := fun _ H' => Q .non H', rt := Q } (start N vs) H) : FnOk P w K mg base CX0 (k + 1) f fd ps (Spec A Pre F Post) := by
  refine F1.ok S (fun vs H Q E h => ?_) (fun cdv A0 outer s H vs Q E hr h => ?_)
  · obtain ⟨i, B, _, hA, _⟩ := h
    exact hl i B vs hA
  · obtain ⟨i, B, x0, hA, hp, q⟩ := h
    exact hbody cdv A0 outer s E i B H vs Q hr x0 hA hp q
theorem mk_def {ι β : Type} {A : ι → Hp → List V → Prop} {Pre : ι → Prop} {F : Enc β} {Post : ι → β → Prop} {x : Str} {st : Stmt} {N ps : List Str} {k : Nat} (F0 : FunAt K mg x st) (S : FnScope N ps (defScope st))
    (bi : ∀ (kV doc pm : Value) (an : Option Addr) (cdv ct : Value) (us : List Value), us.length = ps.length → bindArgs (PySem.W.fnOf x x (defArgs st) (defBody st) (defScope st) .none kV doc pm an cdv ct) ⟨us, []⟩ = pure (ps.zip us))
    (hl : ∀ i, LenA ps.length (A i))
    (hbody : ∀ (f : Addr) (cdv : Value) (A0 : Around) (outer : List Env) (s : Shared) (E : XK) (i : ι) (B H : Hp) (vs : List V) (Q : VK), Room k (A0.deeper (envOfC x (defScope st) s.heap.objs.size f cdv)) → Ex B H → A i B vs → Pre i →
      (∀ w y B2 H2, Stp B H B2 H2 → Post i y → F.R B2 w y → Q w H2) →
      ∃ t, PSs (cxOf CX0 P w K mg base N x (defScope st) f cdv A0 outer s H E).nox (defBody st) t ∧ t { nx := fun _ H' => Q .non H', rt := Q } (start N vs) H) : DefOk P w K mg base (k + 1) x ps (Spec A Pre F Post) := by
  obtain ⟨f, fd, F1, hm⟩ := F0
  refine ⟨f, fd, ?_, hm, F1.kp, F1.binds (ps := ps) bi⟩
  refine F1.ok S (fun vs H Q E h => ?_) (fun cdv A0 outer s H vs Q E hr h => ?_)
  · obtain ⟨i, B, _, hA, _⟩ := h
    exact hl i B vs hA
  · obtain ⟨i, B, x0, hA, hp, q⟩ := h
    exact hbody f cdv A0 outer s E i B H vs Q hr x0 hA hp q
theorem mk_defM {ι β : Type} {A : ι → Hp → List V → Prop} {Pre : ι → Prop} {F : Enc β} {Post : ι → List β → Prop} {x : Str} {st : Stmt} {N ps : List Str} {k : Nat} (F0 : FunAt K mg x st) (S : FnScope N ps (defScope st))
    (bi : ∀ (kV doc pm : Value) (an : Option Addr) (cdv ct : Value) (us : List Value), us.length = ps.length → bindArgs (PySem.W.fnOf x x (defArgs st) (defBody st) (defScope st) .none kV doc pm an cdv ct) ⟨us, []⟩ = pure (ps.zip us))
    (hl : ∀ i, LenA ps.length (A i))
    (hbody : ∀ (f : Addr) (cdv : Value) (A0 : Around) (outer : List Env) (s : Shared) (E : XK) (i : ι) (B H : Hp) (vs : List V) (Q : VK), Room k (A0.deeper (envOfC x (defScope st) s.heap.objs.size f cdv)) → Ex B H → A i B vs → Pre i →
      (∀ p ws ys B2 H2, Stp B H B2 H2 → H p = none → B2 p = none → H2 p = some (.lst ws) → Post i ys → Paired (F.R B2) ws ys → Q (.ref p) H2) →
      ∃ t, PSs (cxOf CX0 P w K mg base N x (defScope st) f cdv A0 outer s H E).nox (defBody st) t ∧ t { nx := fun _ H' => Q .non H', rt := Q } (start N vs) H) : DefOk P w K mg base (k + 1) x ps (SpecM A Pre F Post) := by
  obtain ⟨f, fd, F1, hm⟩ := F0
  refine ⟨f, fd, ?_, hm, F1.kp, F1.binds (ps := ps) bi⟩
  refine F1.ok S (fun vs H Q E h => ?_) (fun cdv A0 outer s H vs Q E hr h => ?_)
  · obtain ⟨i, B, _, hA, _⟩ := h
    exact hl i B vs hA
  · obtain ⟨i, B, x0, hA, hp, q⟩ := h
    exact hbody f cdv A0 outer s E i B H vs Q hr x0 hA hp q
end
section
variable {X : Cx} {k : Nat} {x : Str} {ps : List Str} {sp : Sp} {p pos : Pos} {e : Expr} {es : List Expr} {t : TA}
theorem pe_callD (D : DefOk X.prog X.w X.K X.mg X.base k x ps sp) (hr : Room k X.A) (hg : Gl X x) (ha : PA X (e :: es) t) (hdb : (x == ("__debug__" : Str)) = false := by decide)
    (he : starEach (e :: es) X.env = (false, eval e X.env) :: starEach es X.env := by rfl) (hpl : (backTo pos (starEach es X.env)).any (·.1) = false := by rfl) :
    PE X (.Call (.Name x p) (e :: es) [] pos) (tCall sp [] E0 t) := by
  obtain ⟨f, fd, G, hm, hk, hb⟩ := D
  exact pe_call G hr hg hm hk hb .nil pass0 ha hdb he hpl
end

/-! ### great ints -/
def CMulX (i j : Int) : Prop := i.natAbs.log2 + j.natAbs.log2 < 100000000
theorem CMulX.ok {i j : Int} (h : CMulX i j) : IntMulOk i j := by
  have b : ∀ x : Int, Builtin.Int.intBits x ≤ x.natAbs.log2 + 1 := fun x => by
    unfold Builtin.Int.intBits
    split <;> omega
  have h1 := b i
  have h2 := b j
  have h3 : i.natAbs.log2 + j.natAbs.log2 < 100000000 := h
  have e : bitsLine = 134217728 := by decide
  unfold IntMulOk
  intro z
  rw [Bool.and_eq_true] at z
  have z2 := z.2
  unfold Builtin.Int.intTooBig at z2
  have z3 := of_decide_eq_true z2
  rw [e] at z3
  omega
theorem op_mulX {X : Cx} : OpR X (binaryOp .Mult) (rI CMulX fun i j => .int (i * j)) := opI fun _ _ _ _ _ _ _ hc q => mul_int q hc.ok
/-- an int that is not too great -/
def Bd (n : Int) : Prop := n.natAbs.log2 ≤ 2000000
theorem log2_mono {a b : Nat} (h : a ≤ b) : a.log2 ≤ b.log2 := by
  by_cases h0 : a = 0
  · subst h0
    exact Nat.zero_le _
  · have hb : b ≠ 0 := by omega
    rw [Nat.le_log2 hb]
    exact Nat.le_trans (Nat.log2_self_le h0) h
theorem Bd.le {m n : Int} (h : Bd n) (e : m.natAbs ≤ n.natAbs) : Bd m := Nat.le_trans (log2_mono e) h
theorem Bd.div {n : Int} (h : Bd n) {j : Int} (hj : 0 < j) : Bd (n / j) := h.le (by
  have h1 := Int.emod_add_mul_ediv n j
  have h2 := Int.emod_nonneg n (show j ≠ 0 by omega)
  have h3 := Int.emod_lt_of_pos n hj
  by_cases hn : 0 ≤ n
  · have h4 : 0 ≤ n / j := Int.ediv_nonneg hn (by omega)
    have h5 : n / j ≤ n := Int.ediv_le_self j hn
    omega
  · have h4 : n / j < 0 := Int.ediv_neg_of_neg_of_pos (by omega) hj
    have h5 : n ≤ n / j := by
      have q : (n / j + 1) * j ≤ (n / j + 1) * 1 := Int.mul_le_mul_of_nonpos_left (by omega) (by omega)
      have q2 : (n / j + 1) * j = j * (n / j) + j := by rw [Int.add_mul, Int.one_mul, Int.mul_comm]
      omega
    omega)
theorem Bd.small {n : Int} (h : n.natAbs < 2 ^ 64) : Bd n := by
  unfold Bd
  by_cases h0 : n.natAbs = 0
  · rw [h0]
    decide
  · have := (Nat.log2_lt h0).mpr h
    omega
theorem Bd.bits {n : Int} (h : Builtin.Int.intBits n ≤ 1048576) : Bd n := by
  unfold Bd
  unfold Builtin.Int.intBits at h
  split at h
  · rename_i z
    have e : n.natAbs = 0 := by
      first
        | exact z
        | (simp at z; omega)
    rw [e]
    decide
  · omega
theorem Bd.mul {n j : Int} (h : Bd n) (hj : j.natAbs.log2 < 1000) : CMulX n j := by
  unfold CMulX
  unfold Bd at h
  omega

/-! ### the script: a list that H may only read -/
def eScr (K : PySem.W.Frag) : Enc (List Int) := ⟨fun H v ns => ∃ a, v = .ref a ∧ SqL K H a (ns.map V.int), fun e ⟨a, h1, h2⟩ => ⟨a, h1, ex_l e h2⟩⟩
section
variable {te ta tb tl : TE} {to1 to2 : TO} {σ : L2.St} {B H : Hp} {K : PySem.W.Frag}
theorem es_lenS {ns : List Int} (x0 : Ex B H) (h : EvE (eScr K) ta σ B H ns) : EvE eI (tCB (rLenS K) (tCons ta tNil)) σ B H (ns.length : Int) :=
  es_cb1 x0 h fun v B2 H2 x2 ⟨a, h1, h2⟩ Q k => ⟨a, _, by rw [h1], .inl (ex_l x2 h2), by rw [List.length_map]; exact k _ _ B2 H2 (Stp.refl x2) rfl rfl⟩
theorem es_ixS {ns : List Int} {i n : Int} (x0 : Ex B H) (ha : EvE (eScr K) ta σ B H ns) (hb : EvE eI tb σ B H i) (h0 : 0 ≤ i) (hx : ns[i.toNat]? = some n) : EvE eI (tOp (rIxL K) ta tb) σ B H n :=
  es_op x0 ha hb fun v w B2 H2 x2 ⟨a, h1, h2⟩ hw => ⟨.int n, rfl, fun Q q => ⟨a, _, i, .int n, h1, hw, ex_l x2 h2, atI_of h0 (by rw [List.getElem?_map, hx]; rfl), q⟩⟩
theorem em_slS {ns : List Int} {lo hi : Option Int} (x0 : Ex B H) (h : EvE (eScr K) te σ B H ns) (h1 : EvO to1 σ H lo) (h2 : EvO to2 σ H hi) : EvM eI (tSl (rSlL K) te to1 to2) σ B H (fun ys => ys = cutP ns lo hi) := fun H1 e Q k =>
  h H1 e _ fun v x' B2 H2 t hx hR => by
    cases hx
    obtain ⟨a, rfl, q2⟩ := hR
    refine h1 H2 (e.trans t.eh) _ fun H3 e3 => h2 H3 ((e.trans t.eh).trans e3) _ fun H4 e4 => ⟨a, _, rfl, ex_l ((t.bh.trans e3).trans e4) q2, fun p hp => ?_⟩
    have s := t.goH (e3.trans e4)
    refine k p _ _ B2 _ (s.goH (Ex.new hp)) (fresh_back s.eh hp) (fresh_back s.bh hp) upd_same rfl (pcut lo hi (pI' (H := B2) ns))
/-- the cell of the script at k, or nought -/
def cellM (ns : List Int) (k : Int) : Int := if k < (ns.length : Int) then ns.getD k.toNat 0 else 0
theorem cellM_bd {ns : List Int} (h : ∀ n ∈ ns, Bd n) (k : Int) : Bd (cellM ns k) := by
  unfold cellM
  split
  · rw [List.getD_eq_getElem?_getD]
    cases e : ns[k.toNat]? with
    | none => exact Bd.small (by decide)
    | some n => exact h n (List.mem_of_getElem? e)
  · exact Bd.small (by decide)
end
theorem cutP_mem {α : Type} {xs : List α} {lo hi : Option Int} {x : α} (h : x ∈ cutP xs lo hi) : x ∈ xs := by
  unfold cutP at h
  exact List.mem_of_mem_drop (List.mem_of_mem_take h)
theorem cutP_len {α : Type} (xs : List α) (lo hi : Option Int) : (cutP xs lo hi).length ≤ xs.length := by
  unfold cutP
  rw [List.length_take, List.length_drop]
  omega
/-! ### the numbers of those that a test takes -/
def sel {α : Type} (p : α → Bool) (xs : List α) (i : Nat) : List Int := ((List.range i).filter fun k => (xs[k]?).any p).map fun (k : Nat) => (k : Int)
theorem sel_zero {α : Type} (p : α → Bool) (xs : List α) : sel p xs 0 = [] := rfl
theorem sel_succ {α : Type} {p : α → Bool} {xs : List α} {i : Nat} {x : α} (h : xs[i]? = some x) : sel p xs (i + 1) = sel p xs i ++ if p x then [(i : Int)] else [] := by
  unfold sel
  rw [List.range_succ, List.filter_append, List.map_append]
  congr 1
  rw [List.filter_cons, h]
  cases hp : p x <;> simp [hp]
theorem sel_yes {α : Type} {p : α → Bool} {xs : List α} {i : Nat} {x : α} (h : xs[i]? = some x) (hp : p x = true) : sel p xs (i + 1) = sel p xs i ++ [(i : Int)] := by
  rw [sel_succ h, hp, if_pos rfl]
theorem sel_no {α : Type} {p : α → Bool} {xs : List α} {i : Nat} {x : α} (h : xs[i]? = some x) (hp : p x = false) : sel p xs (i + 1) = sel p xs i := by
  rw [sel_succ h, hp, if_neg Bool.false_ne_true, List.append_nil]
theorem sel_len {α : Type} (p : α → Bool) (xs : List α) (i : Nat) : (sel p xs i).length ≤ i := by
  unfold sel
  rw [List.length_map]
  have h := List.length_filter_le (fun k => (xs[k]?).any p) (List.range i)
  rw [List.length_range] at h
  exact h
theorem mem_sel {α : Type} {p : α → Bool} {xs : List α} {i : Nat} {k : Int} : k ∈ sel p xs i ↔ 0 ≤ k ∧ k < (i : Int) ∧ ∃ x, xs[k.toNat]? = some x ∧ p x = true := by
  unfold sel
  rw [List.mem_map]
  constructor
  · rintro ⟨a, ha, rfl⟩
    rw [List.mem_filter, List.mem_range] at ha
    obtain ⟨h1, h2⟩ := ha
    refine ⟨by omega, by omega, ?_⟩
    rw [Int.toNat_natCast]
    cases e : xs[a]? with
    | none =>
      rw [e] at h2
      cases h2
    | some x =>
      rw [e] at h2
      exact ⟨x, rfl, h2⟩
  · rintro ⟨h0, h1, x, hx, hp⟩
    refine ⟨k.toNat, ?_, by omega⟩
    rw [List.mem_filter, List.mem_range, hx]
    exact ⟨by omega, hp⟩
theorem map_snoc (xs : List Int) (x : Int) : (xs ++ [x]).map V.int = xs.map V.int ++ [V.int x] := by rw [List.map_append]; rfl
end RR
namespace RR
open PySem L2 Evl PyProof.Rows

/-! ### what stands for plain data -/
structure De {α : Type} (E : Enc α) (n : Nat) where
  d : α → PyData
  ok : ∀ {K : PySem.W.Frag} {H : Hp} {v : V} {x : α}, E.R H v x → Dp K H v (d x)
  lay : ∀ x, (d x).canLay0 = true
  dep : ∀ x, (d x).depth ≤ n
section
variable {α β γ : Type} {E : Enc α} {F : Enc β} {G : Enc γ} {n m l : Nat}
def deI : De eI 0 := ⟨fun i => .int i, fun h => by cases h; exact .int _, fun _ => rfl, fun _ => Nat.le_refl _⟩
def deB : De eB 0 := ⟨fun i => .bool i, fun h => by cases h; exact .bl _, fun _ => rfl, fun _ => Nat.le_refl _⟩
def dO : Option Int → PyData
  | none => .none
  | some i => .int i
def deO : De eO 0 := ⟨dO, fun {K H v x} h => by
  cases x with
  | none => cases h; exact .non
  | some i => cases h; exact .int _, fun x => by cases x <;> rfl, fun x => by cases x <;> exact Nat.le_refl _⟩
theorem dp_all (D : De E n) {K : PySem.W.Frag} {H : Hp} : ∀ {vs : List V} {xs : List α}, Paired (E.R H) vs xs → DpAll K H vs (xs.map D.d)
  | _, _, .nil => .nil
  | _, _, .cons r t => .cons (D.ok r) (dp_all D t)
theorem lay_all (D : De E n) : ∀ xs : List α, PyData.canLayAll0 (xs.map D.d) = true
  | [] => rfl
  | x :: r => by
    rw [List.map_cons]
    show (PyData.canLay0 (D.d x) && PyData.canLayAll0 (r.map D.d)) = true
    rw [D.lay x, lay_all D r]
    rfl
theorem dep_all (D : De E n) : ∀ xs : List α, PyData.depthAll (xs.map D.d) ≤ n
  | [] => Nat.zero_le _
  | x :: r => by
    rw [List.map_cons]
    show max (PyData.depth (D.d x)) (PyData.depthAll (r.map D.d)) ≤ n
    have h1 := D.dep x
    have h2 := dep_all D r
    omega
def deL (D : De E n) : De (eL E) (n + 1) := ⟨fun xs => .list (xs.map D.d), fun ⟨a, vs, h1, h2, h3⟩ => by
  subst h1
  exact .lst (SqL.of h2) (dp_all D h3), fun xs => lay_all D xs, fun xs => Nat.succ_le_succ (dep_all D xs)⟩
def deT (D : De E n) : De (eT E) (n + 1) := ⟨fun xs => .tuple (xs.map D.d), fun ⟨a, vs, h1, h2, h3⟩ => by
  subst h1
  exact .tup (SqT.of h2) (dp_all D h3), fun xs => lay_all D xs, fun xs => Nat.succ_le_succ (dep_all D xs)⟩
def de2 (D : De E n) (D' : De F m) : De (e2 E F) (n + m + 1) := ⟨fun x => .tuple [D.d x.1, D'.d x.2], fun ⟨a, u, w, h1, h2, h3, h4⟩ => by
  subst h1
  exact .tup (SqT.of h2) (.cons (D.ok h3) (.cons (D'.ok h4) .nil)), fun x => by
    show (PyData.canLay0 (D.d x.1) && (PyData.canLay0 (D'.d x.2) && true)) = true
    rw [D.lay, D'.lay]
    rfl, fun x => by
    show max (PyData.depth (D.d x.1)) (max (PyData.depth (D'.d x.2)) 0) + 1 ≤ n + m + 1
    have h1 := D.dep x.1
    have h2 := D'.dep x.2
    omega⟩
def de3 (D : De E n) (D' : De F m) (D'' : De G l) : De (e3 E F G) (n + m + l + 1) := ⟨fun x => .tuple [D.d x.1, D'.d x.2.1, D''.d x.2.2], fun ⟨a, u, w, z, h1, h2, h3, h4, h5⟩ => by
  subst h1
  exact .tup (SqT.of h2) (.cons (D.ok h3) (.cons (D'.ok h4) (.cons (D''.ok h5) .nil))), fun x => by
    show (PyData.canLay0 (D.d x.1) && (PyData.canLay0 (D'.d x.2.1) && (PyData.canLay0 (D''.d x.2.2) && true))) = true
    rw [D.lay, D'.lay, D''.lay]
    rfl, fun x => by
    show max (PyData.depth (D.d x.1)) (max (PyData.depth (D'.d x.2.1)) (max (PyData.depth (D''.d x.2.2)) 0)) + 1 ≤ n + m + l + 1
    have h1 := D.dep x.1
    have h2 := D'.dep x.2.1
    have h3 := D''.dep x.2.2
    omega⟩
abbrev deR : De eR 1 := de3 deI deI deI
theorem De.sh (D : De E n) (h : n ≤ 64) (x : α) : SeqAt.shaped (D.d x) = true := by
  show ((D.d x).canLay0 && decide ((D.d x).depth ≤ 64)) = true
  rw [D.lay x, decide_eq_true (Nat.le_trans (D.dep x) h)]
  rfl
theorem De.refl (D : De E n) (x : α) : PyData.eqv (D.d x) (D.d x) = true := SeqAt.eqv_refl _ (D.lay x)
end

section
variable {α β γ δ ε : Type} {E : Enc α} {F : Enc β} {G : Enc γ} {n m : Nat}
variable {te ta tb tc tl : TE} {tt : TT} {σ : L2.St} {B H B0 H0 B1 H1 : Hp} {S : α → Prop} {K : PySem.W.Frag} {D : Ends} {tu tw tz : TS} {i : Nat}
theorem es_eqD {x : α} {y : β} (De1 : De E n) (De2 : De F m) (hn : n ≤ 64) (hm : m ≤ 64) (x0 : Ex B H) (ha : EvE E ta σ B H x) (hb : EvE F tb σ B H y) : EvE eB (tOp (rEqD K) ta tb) σ B H (PyData.eqv (De1.d x) (De2.d y)) :=
  es_op x0 ha hb fun v w B2 H2 x2 hv hw => ⟨_, rfl, fun Q q => ⟨_, _, De1.ok (E.up x2 hv), De2.ok (F.up x2 hw), De1.sh hn x, De2.sh hm y, q⟩⟩
theorem es_neD {x : α} {y : β} (De1 : De E n) (De2 : De F m) (hn : n ≤ 64) (hm : m ≤ 64) (x0 : Ex B H) (ha : EvE E ta σ B H x) (hb : EvE F tb σ B H y) : EvE eB (tOp (rNeD K) ta tb) σ B H (!PyData.eqv (De1.d x) (De2.d y)) :=
  es_op x0 ha hb fun v w B2 H2 x2 hv hw => ⟨_, rfl, fun Q q => ⟨_, _, De1.ok (E.up x2 hv), De2.ok (F.up x2 hw), De1.sh hn x, De2.sh hm y, q⟩⟩
theorem es_eqSame {x : α} (De1 : De E n) (hn : n ≤ 64) (x0 : Ex B H) (ha : EvE E ta σ B H x) (hb : EvE E tb σ B H x) : EvE eB (tOp (rEqD K) ta tb) σ B H true := (es_eqD De1 De1 hn hn x0 ha hb).to (De1.refl x)
theorem es_neSame {x : α} (De1 : De E n) (hn : n ≤ 64) (x0 : Ex B H) (ha : EvE E ta σ B H x) (hb : EvE E tb σ B H x) : EvE eB (tOp (rNeD K) ta tb) σ B H false := (es_neD De1 De1 hn hn x0 ha hb).to (by rw [De1.refl x]; rfl)

/-! ### isinstance -/
theorem es_isi {c a : String} {b : Bool} (x0 : Ex B H) (ha : EvS E ta σ B H S) (ty : ∀ x v B2 H2, Ex B2 H2 → S x → E.R B2 v x → TyX K H2 v (.type a)) (h : kitB a c = some b) : EvE eB (tCB (rIsi K) (tCons ta (tCons (tC (.ty c)) tNil))) σ B H b := fun H1 e Q k =>
  ha H1 e _ fun v x B2 H2 t hS hR => ⟨v, .ty c, _, _, b, rfl, .ty c, ty x v B2 H2 t.bh hS hR, kit_ty h, k _ _ B2 H2 t rfl rfl⟩
theorem es_isiI {c : String} {b : Bool} {S : Int → Prop} (x0 : Ex B H) (ha : EvS eI ta σ B H S) (h : kitB "int" c = some b) : EvE eB (tCB (rIsi K) (tCons ta (tCons (tC (.ty c)) tNil))) σ B H b :=
  es_isi x0 ha (fun x v B2 H2 _ _ hR => by cases hR; exact .base (.int _)) h
theorem es_isiB {c : String} {b : Bool} {S : Bool → Prop} (x0 : Ex B H) (ha : EvS eB ta σ B H S) (h : kitB "bool" c = some b) : EvE eB (tCB (rIsi K) (tCons ta (tCons (tC (.ty c)) tNil))) σ B H b :=
  es_isi x0 ha (fun x v B2 H2 _ _ hR => by cases hR; exact .base (.bl _)) h
theorem es_isiN {c : String} {b : Bool} (x0 : Ex B H) (ha : EvE eO ta σ B H none) (h : kitB "NoneType" c = some b) : EvE eB (tCB (rIsi K) (tCons ta (tCons (tC (.ty c)) tNil))) σ B H b :=
  es_isi x0 ha (fun x v B2 H2 _ hS hR => by cases hS; cases hR; exact .base .non) h
theorem es_isiL {c : String} {b : Bool} {S : List α → Prop} (x0 : Ex B H) (ha : EvS (eL E) ta σ B H S) (h : kitB "list" c = some b) : EvE eB (tCB (rIsi K) (tCons ta (tCons (tC (.ty c)) tNil))) σ B H b :=
  es_isi x0 ha (fun x v B2 H2 x2 _ ⟨a, vs, h1, h2, _⟩ => by subst h1; exact .base (.lst (x2 _ _ h2))) h
theorem es_isiT {c : String} {b : Bool} {S : List α → Prop} (x0 : Ex B H) (ha : EvS (eT E) ta σ B H S) (h : kitB "tuple" c = some b) : EvE eB (tCB (rIsi K) (tCons ta (tCons (tC (.ty c)) tNil))) σ B H b :=
  es_isi x0 ha (fun x v B2 H2 x2 _ ⟨a, vs, h1, h2, _⟩ => by subst h1; exact .base (.tup (x2 _ _ h2))) h
theorem es_isi2 {c : String} {b : Bool} {S : α × β → Prop} (x0 : Ex B H) (ha : EvS (e2 E F) ta σ B H S) (h : kitB "tuple" c = some b) : EvE eB (tCB (rIsi K) (tCons ta (tCons (tC (.ty c)) tNil))) σ B H b :=
  es_isi x0 ha (fun x v B2 H2 x2 _ ⟨a, u, w, h1, h2, _⟩ => by subst h1; exact .base (.tup (x2 _ _ h2))) h
theorem es_isi3 {c : String} {b : Bool} {S : α × β × γ → Prop} (x0 : Ex B H) (ha : EvS (e3 E F G) ta σ B H S) (h : kitB "tuple" c = some b) : EvE eB (tCB (rIsi K) (tCons ta (tCons (tC (.ty c)) tNil))) σ B H b :=
  es_isi x0 ha (fun x v B2 H2 x2 _ ⟨a, u, w, z, h1, h2, _⟩ => by subst h1; exact .base (.tup (x2 _ _ h2))) h
theorem k_ii : kitB "int" "int" = some true := by decide +kernel
theorem k_ib : kitB "int" "bool" = some false := by decide +kernel
theorem k_ll : kitB "list" "list" = some true := by decide +kernel
theorem k_tt : kitB "tuple" "tuple" = some true := by decide +kernel
theorem k_bb : kitB "bool" "bool" = some true := by decide +kernel
theorem k_bi : kitB "bool" "int" = some true := by decide +kernel
theorem k_ni : kitB "NoneType" "int" = some false := by decide +kernel
theorem k_nb : kitB "NoneType" "bool" = some false := by decide +kernel
theorem k_nl : kitB "NoneType" "list" = some false := by decide +kernel
/-- isinstance(x, int) and not isinstance(x, bool) of an int; the other way round -/
theorem et_whole {S : Int → Prop} (x0 : Ex B H) (ha : EvS eI ta σ B H S) (hb : EvS eI tb σ B H S) :
    EvT (tOr (tNot (tB (tCB (rIsi K) (tCons ta (tCons (tC (.ty "int")) tNil))))) (tB (tCB (rIsi K) (tCons tb (tCons (tC (.ty "bool")) tNil))))) σ H false :=
  et_or (et_not (et_sB (es_isiI x0 ha k_ii))) fun _ => et_sB (es_isiI x0 hb k_ib)

/-! ### ends, ifs -/
theorem c_ret {T : β → Prop} (s : Stp B0 H0 B H) (h : EvS F te σ B H T) (k : ∀ w y B2 H2, Stp B0 H0 B2 H2 → T y → F.R B2 w y → D.rt w H2) : tRet te D σ H := by
  exact h H (Ex.refl _) _ fun w y B2 H2 t hT hR => k w y B2 H2 (s.trans t) hT hR
theorem c_retM {T : List β → Prop} (s : Stp B0 H0 B H) (h : EvM F te σ B H T) (k : ∀ p ws ys B2 H2, Stp B0 H0 B2 H2 → H0 p = none → B2 p = none → H2 p = some (.lst ws) → T ys → Paired (F.R B2) ws ys → D.rt (.ref p) H2) : tRet te D σ H :=
  h H (Ex.refl _) _ fun p ws ys B2 H2 t hp bp hl hT hR => k p ws ys B2 H2 (s.trans t) (fresh_back s.eh hp) bp hl hT hR
theorem set_same {ξ : Type} {xs : List ξ} {i : Nat} {a : ξ} (h : xs[i]? = some a) : xs.set i a = xs := by
  obtain ⟨h1, h2⟩ := List.getElem?_eq_some_iff.mp h
  rw [← h2]
  exact List.set_getElem_self h1
/-- if c: x = e, an int -/
theorem q_ifSetI {b : Bool} {T : Int → Prop} (ht : EvT tt σ H b) (x0 : Ex B H) (h1 : b = true → EvS eI te σ B H T) (h2 : b = false → ∃ n, σ[i]? = some (some (.int n)) ∧ T n) (k : ∀ n B1 H1, Stp B H B1 H1 → T n → tz D (σ.set i (some (.int n))) H1) :
    tSeq (tIfS tt (tAsg te (gName i)) tNext) tz D σ H :=
  q_when ht (fun hb H1 e => (h1 hb).up (Stp.go x0 e) H1 (Ex.refl _) _ fun v n B1 H2 s hT hR => by
    cases hR
    exact k n B1 H2 ((Stp.go x0 e).trans s) hT) (fun hb H1 e => by
    obtain ⟨n, hn, hT⟩ := h2 hb
    have q := k n B H1 (Stp.go x0 e) hT
    rw [set_same hn] at q
    exact q)
/-- a list, a dict of one's own becomes known -/
theorem cell_pub {a : Addr} {vs : List V} {xs : List α} (c : Cell H0 B H a (.lst vs)) (s0 : Stp B0 H0 B H) (hp : Paired (E.R B) vs xs) :
    ∃ B1, Stp B0 H0 B1 H ∧ Ex B B1 ∧ (eL E).R B1 (.ref a) xs ∧ ∀ p o, p ≠ a → Cell H0 B H p o → Cell H0 B1 H p o := by
  obtain ⟨t, r⟩ := cell_out (E := E) c s0 hp
  exact ⟨_, t, Ex.new c.b, r, fun p o ne d => ⟨d.n, by rw [upd_ne ne]; exact d.b, d.h⟩⟩
theorem cell_pubD {a : Addr} {kvs : List (Key × V)} {ks : List Int} (c : Cell H0 B H a (.dK kvs)) (s0 : Stp B0 H0 B H) (hk : kvs.map (·.1) = ks.map Sum.inl) :
    ∃ B1, Stp B0 H0 B1 H ∧ Ex B B1 ∧ eD.R B1 (.ref a) ks ∧ ∀ p o, p ≠ a → Cell H0 B H p o → Cell H0 B1 H p o := by
  obtain ⟨t, r⟩ := cell_outD c s0 hk
  exact ⟨_, t, Ex.new c.b, r, fun p o ne d => ⟨d.n, by rw [upd_ne ne]; exact d.b, d.h⟩⟩
/-- an item of a list, any -/
theorem es_ixLM {xs : List α} {j : Int} (x0 : Ex B H) (ha : EvE (eL E) ta σ B H xs) (hb : EvE eI tb σ B H j) (h0 : 0 ≤ j) (h1 : j < (xs.length : Int)) : EvS E (tOp (rIxL K) ta tb) σ B H (fun x => x ∈ xs) := by
  have hj : j.toNat < xs.length := by omega
  refine (es_ixL (x := xs[j.toNat]) x0 ha hb h0 (List.getElem?_eq_getElem hj)).imp fun y hy => ?_
  subst hy
  exact List.getElem_mem hj
theorem pair_all {P : β → Prop} {R : α → β → Prop} (h : ∀ x y, R x y → P y) : ∀ {xs : List α} {ys : List β}, Paired R xs ys → ∀ y ∈ ys, P y
  | _, _, .nil, _, m => by cases m
  | _, _, .cons r t, y, m => by
    rcases List.mem_cons.mp m with e | m
    · subst e
      exact h _ _ r
    · exact pair_all h t y m
theorem pair_len {R : α → β → Prop} {xs : List α} {ys : List β} (h : Paired R xs ys) : ys.length = xs.length := (Paired.length h).symm
end
/-! ### s + d round m -/
theorem emod_add_lt {s d m : Int} (h0 : 0 ≤ s) (h1 : s < m) (h2 : 0 ≤ d) (h3 : d < m) : (s + d) % m = if s + d < m then s + d else s + d - m := by
  split
  · exact Int.emod_eq_of_lt (by omega) (by omega)
  · have e : (s + d) % m = (s + d - m) % m := by rw [Int.sub_emod_right]
    rw [e]
    exact Int.emod_eq_of_lt (by omega) (by omega)
/-- a road between two of so many places -/
def OkR (m : Int) (r : Road) : Prop := 0 ≤ r.1 ∧ r.1 < m ∧ 0 ≤ r.2.1 ∧ r.2.1 < m ∧ r.1 ≠ r.2.1 ∧ 0 ≤ r.2.2 ∧ r.2.2 < 10000000000000000000000000000000000000000
end RR
namespace RR
open PySem L2 Evl PyProof.Rows
/-! ### what is raised -/
/-- an error class of the program's own, at C -/
structure ExcT (K : PySem.W.Frag) (mg : Str → Option Value) (x : Str) (C : Addr) : Prop where
  g : mg x = some (.ref C)
  ex : PySem.W.excIn K C [.type "ValueError", .type "Exception", .type "BaseException", .type "object"] "ValueError.__new__" = true
  kp : PySem.W.keepIn K (.ref C) = true
  sb : PySem.W.subIn K (.ref C) (.type "BaseException") = some true
  ty : PySem.W.typeIn K (.ref C) = some (.type "type")
  hd : PySem.W.hasDictIn K C = true
/-- isinstance of an error that is held -/
structure ExcV (K : PySem.W.Frag) (D : Addr) : Prop where
  c : ExcC K D
  v : PySem.W.kitOne K (.ref D) (.type "ValueError") = some true
/-- a def that may let something out -/
def DefOkX (P : Program) (w : World) (K : PySem.W.Frag) (mg : Str → Option Value) (base : Heap) (k : Nat) (x : Str) (ps : List Str) (sp : Sp) : Prop :=
  ∃ f fd, FnOk P w K mg base (L2.CX P w) k f fd ps sp ∧ mg x = some (.ref f) ∧ PySem.W.keepIn K (.ref f) = true ∧ Binds K fd ps []
/-- a promise: it raises an error of the class C i, and has changed nothing -/
def SpecR {ι : Type} (A : ι → Hp → List V → Prop) (Pre : ι → Prop) (C : ι → Addr) : Sp := fun vs H _ E => ∃ (i : ι) (B : Hp), Ex B H ∧ A i B vs ∧ Pre i ∧ ∀ B2 H2, Stp B H B2 H2 → E (.ref (C i)) none H2
section
variable {P : Program} {w : World} {K : PySem.W.Frag} {mg : Str → Option Value} {base : Heap}
theorem mk_defR {ι : Type} {A : ι → Hp → List V → Prop} {Pre : ι → Prop} {C : ι → Addr} {x : Str} {st : Stmt} {N ps : List Str} {k : Nat} (F0 : FunAt K mg x st) (S : FnScope N ps (defScope st))
    (bi : ∀ (kV doc pm : Value) (an : Option Addr) (cdv ct : Value) (us : List Value), us.length = ps.length → bindArgs (PySem.W.fnOf x x (defArgs st) (defBody st) (defScope st) .none kV doc pm an cdv ct) ⟨us, []⟩ = pure (ps.zip us))
    (hl : ∀ i, LenA ps.length (A i))
    (hbody : ∀ (f : Addr) (cdv : Value) (A0 : Around) (outer : List Env) (s : Shared) (E : XK) (i : ι) (B H : Hp) (vs : List V) (Q : VK), Room k (A0.deeper (envOfC x (defScope st) s.heap.objs.size f cdv)) → Ex B H → A i B vs → Pre i →
      (∀ B2 H2, Stp B H B2 H2 → E (.ref (C i)) none H2) →
      ∃ t, PSs (cxOf (L2.CX P w) P w K mg base N x (defScope st) f cdv A0 outer s H E) (defBody st) t ∧ t { nx := fun _ H' => Q .non H', rt := Q } (start N vs) H) : DefOkX P w K mg base (k + 1) x ps (SpecR A Pre C) := by
  obtain ⟨f, fd, F1, hm⟩ := F0
  refine ⟨f, fd, ?_, hm, F1.kp, F1.binds (ps := ps) bi⟩
  refine F1.okX S (fun vs H Q E h => ?_) (fun cdv A0 outer s H vs Q E hr h => ?_)
  · obtain ⟨i, B, _, hA, _⟩ := h
    exact hl i B vs hA
  · obtain ⟨i, B, x0, hA, hp, q⟩ := h
    exact hbody f cdv A0 outer s E i B H vs Q hr x0 hA hp q
end
section
variable {X : Cx} {k : Nat} {x : Str} {ps : List Str} {sp : Sp} {p pos : Pos} {e : Expr} {es : List Expr} {t : TA} {E : XK}
/-- a call that may raise, within a def that may raise -/
theorem pe_callX (D : DefOkX X.prog X.w X.K X.mg X.base k x ps sp) (hr : Room k X.A) (hg : Gl X x) (tk : Takes X fun cls d _ H => E cls d H) (ha : PA X (e :: es) t) (hdb : (x == ("__debug__" : Str)) = false := by decide)
    (he : starEach (e :: es) X.env = (false, eval e X.env) :: starEach es X.env := by rfl) (hpl : (backTo pos (starEach es X.env)).any (·.1) = false := by rfl) :
    PE X (.Call (.Name x p) (e :: es) [] pos) (tCall sp [] E t) := by
  obtain ⟨f, fd, G, hm, hk, hb⟩ := D
  exact pe_call G hr hg hm hk hb .nil (passes_call tk fun _ _ _ _ h => h) ha hdb he hpl
/-- a call that may raise, within a try's body -/
theorem pe_callT {W : WX} (D : DefOkX X.prog X.w X.K X.mg X.base k x ps sp) (hr : Room k X.A) (hg : Gl X x) (tk : Takes X W) (ha : PA X (e :: es) t) (hdb : (x == ("__debug__" : Str)) = false := by decide)
    (he : starEach (e :: es) X.env = (false, eval e X.env) :: starEach es X.env := by rfl) (hpl : (backTo pos (starEach es X.env)).any (·.1) = false := by rfl) :
    PE X (.Call (.Name x p) (e :: es) [] pos) (tCallS sp (WE W) t) := by
  obtain ⟨f, fd, G, hm, hk, hb⟩ := D
  exact pe_callS G hr hg hm hk hb (fun σ => passAt tk σ) ha hdb he hpl
/-- a block that is never come to -/
theorem pss_never {ss : List Stmt} : PSs X ss (fun _ _ _ => False) := ⟨fun _ _ _ _ _ _ h => h.elim⟩
end
section
variable {ι : Type} {A : ι → Hp → List V → Prop} {Pre : ι → Prop} {C : ι → Addr} {ar : TA} {σ : L2.St} {B H H1 : Hp} {E : XK} {W : WX}
/-- a call that raises: whatever follows -/
theorem x_call (i : ι) (h : EvAr ar σ B H (A i)) (p : Pre i) (k : ∀ B2 H2, Stp B H B2 H2 → E (.ref (C i)) none H2) : ∀ Q : VK, tCall (SpecR A Pre C) [] E ar σ H Q := fun Q =>
  h H (Ex.refl _) _ fun vs B2 H2 t hA => ⟨i, B2, t.bh, by rw [List.append_nil]; exact hA, p, fun B3 H3 t2 => k B3 H3 (t.trans t2)⟩
theorem x_callS (i : ι) (h : EvAr ar σ B H (A i)) (p : Pre i) (k : ∀ B2 H2, Stp B H B2 H2 → W (.ref (C i)) none σ H2) : ∀ Q : VK, tCallS (SpecR A Pre C) (WE W) ar σ H Q := fun Q =>
  h H (Ex.refl _) _ fun vs B2 H2 t hA => ⟨i, B2, t.bh, hA, p, fun B3 H3 t2 => k B3 H3 (t.trans t2)⟩
end
theorem exm_own {K : PySem.W.Frag} {mg : Str → Option Value} {y : Str} {C D : Addr} (hD : ExcT K mg y D) {b : Bool} (h : PySem.W.subIn K (.ref C) (.ref D) = some b) : PySem.W.exmOne K (.ref C) (.ref D) = some b :=
  PySem.W.exm_ref hD.sb hD.hd hD.ty h
section
variable {X : Cx} {a : Addr} {oe : Obj} {pn : List (Addr × Obj)} {cls : Value} {d : Option Addr}
/-- isinstance(e, ValueError), e the error that the suite holds -/
def rIsV (K : PySem.W.Frag) (cls : Value) (d : Option Addr) (a : Addr) : List V → Hp → VK → Prop := fun xs H Q => ∃ D, cls = .ref D ∧ d = none ∧ ExcV K D ∧ xs = [.ref a, .ty "ValueError"] ∧ Q (.bl true) H
theorem call_isV (hz : Zc cls d oe) (hf : ∃ vs, oe.data = .fields vs) : CallR (X.suite a ((a, oe) :: pn)) (.builtin "isinstance") (rIsV X.K cls d a) := by
  intro pins s σ H xs us Q I r h
  obtain ⟨D, rfl, rfl, hv, rfl, q⟩ := h
  exact call_isE hv.c hz hf pins s σ H _ us Q I r ⟨.ty "ValueError", .type "ValueError", true, rfl, fun u ru => by cases ru; rfl, hv.v, q⟩
end
end RR
/-! ### a list's end, while an exception is handled: the kit's end of a list and its raising in a hot state, put together -/
namespace RRH
open PySem PySem.Spec PyProof.Rows HotX L2 L2H
section
variable {pg : Program} {wd : World} {Ar : Around} {Er : Value → Shared → Prop} {sh : Shared}
/-- the error that is handled is no iterator of a list -/
theorem hot_no_iter {itr ls xa : Addr} {k : Nat} (hot : HotAt Ar xa sh.heap) (hi : sh.heap.IsListIter itr ls k) : xa ≠ itr := fun z => by
  obtain ⟨oi, e1, _, e2⟩ := hi
  obtain ⟨_, oh, ws, e3, e4, e5⟩ := hot
  rw [z, e1] at e3
  cases e3
  rw [e2] at e4
  cases e4
  cases e5
/-- StopIteration of a list's iterator, in a hot state -/
theorem list_end_hot {itr ls xa : Addr} {k : Nat} {us : Array Value} {Qr : Option Value → Shared → Prop} (hot : HotAt Ar xa sh.heap) (hi : sh.heap.IsListIter itr ls k) (hls : sh.heap.IsList ls us) (hk : us[k]? = none)
    (fin : ∀ hp, Heap.ExtBut itr sh.heap hp → Qr none { sh with heap := hp }) : wpAny (model pg wd) Ar (pyNext (.ref itr)) Qr Er sh := by
  have nei := hot_no_iter hot hi
  obtain ⟨oi, gi, _, di⟩ := id hi
  obtain ⟨ol, gl, _, _, dl⟩ := hls
  obtain ⟨hh, oh, ws, gh, dh, ch⟩ := hot
  unfold pyNext
  refine wpAny_bind (wpAny_attempt (wpAny_callSpecial?_slot (name := Str.ofString "__next__") hi.typeIs slot_listiter_next (wpAny_call_entry slot_listiter_next hi.typeIs entry_listiter_next ?_ (args_listiter_next _))))
  show wpAny _ _ (field (.ref itr) 0 >>= _) _ _ sh
  refine wpAny_bind (wpAny_field gi di (x := .ref ls) rfl ?_)
  show wpAny _ _ (if (Value.ref ls == Value.none) = true then _ else _) _ _ sh
  rw [if_neg (fun z : (Value.ref ls == Value.none) = true => Bool.false_ne_true z)]
  show wpAny _ _ (field (.ref itr) 1 >>= _) _ _ sh
  refine wpAny_bind (wpAny_field gi di (x := .int k 0) rfl ?_)
  show wpAny _ _ (seqItems? (.ref ls) >>= _) _ _ sh
  refine wpAny_bind (wpAny_seqItems gl dl ?_)
  simp only [Int.toNat_natCast, hk]
  refine wpAny_bind (wpAny_rule (wpAny_bind (wpAny_setField gi di (by simp) ?_)))
  have kp : ∀ b u, b ≠ itr → sh.heap.get? b = some u → (sh.heap.update itr (Obj.mapFields (·.setIfInBounds 0 .none))).get? b = some u := fun b u nb e => (Heap.SameBut.update ..).extBut b u nb e
  have gx := kp _ _ nei gh
  show wpAny _ _ (newExc (.type "StopIteration") [] >>= fun _ => _) _ _ _
  refine wpAny_bind ?_
  simp only [newExc, newTuple]
  refine wpAny_bind (wpAny_newObj_type (wpAny_bind (m := firstArgMember _ _) (wpAny_of_eq (a := Value.none) (by first | rfl | (simp only [firstArgMember]; rfl)) (wpAny_newObj_type ?_ (by size_fits)))) (by size_fits))
  refine raiseNew_hot ⟨hh, oh, ws, Heap.get?_push_of_some _ (Heap.get?_push_of_some _ gx), dh, ch⟩ (Nat.ne_of_lt (Heap.lt_size (Heap.get?_push_of_some _ gx))) (Heap.get?_push_size _ rfl) rfl (by first | (simp; done) | (simp; omega)) (wpAny_bind (wpAny_isInstance (T := "StopIteration") (b := true) ⟨_, Heap.get?_update_self _ (Heap.get?_push_size _ rfl) rfl, rfl⟩ isSubtype_stop (wpAny_pure (fin _ fun b u nb e => ?_))))
  refine (Heap.get?_update_other _ _ (Nat.ne_of_gt (Heap.lt_size (Heap.get?_push_of_some _ (kp _ _ nb e))))).trans ?_
  exact Heap.get?_push_of_some _ (Heap.get?_push_of_some _ (kp _ _ nb e))
end
/-- a turn over a list in a hot state: as the kit's turn_list, but for its end -/
theorem turn_listH {P : Program} {w : World} {K : PySem.W.Frag} {tg : Expr} (ls itr : Addr) : TurnH P w K tg (Itl K ls) [itr] itr (fun k h => h.IsListIter itr ls k) where
  mem := (turn_list (P := P) (w := w) (K := K) (tg := tg) ls itr).mem
  obj := (turn_list (P := P) (w := w) (K := K) (tg := tg) ls itr).obj
  keep := (turn_list (P := P) (w := w) (K := K) (tg := tg) ls itr).keep
  self := (turn_list (P := P) (w := w) (K := K) (tg := tg) ls itr).self
  item := fun X hP hw hK _ k ps sh σ H Er Iv hf hi hgo => by
    subst hP hw hK
    obtain ⟨vs, y, hs, hy⟩ := hgo
    obtain ⟨us, ru, pl, _⟩ := Iv.list hs
    obtain ⟨u, gu, uy⟩ := ru.get hy
    have ok := hf itr (List.mem_singleton.mpr rfl)
    refine wpAny_pyNext_list_item hi pl.isList (x := u) (by simpa using gu) fun hp hi2 same => ?_
    obtain ⟨oi, g1, g2, g3⟩ := id hi2
    have Iv2 : Inv X ps σ H { sh with heap := hp } := Iv.turned (t' := sh.toks) (fun b o nb e => (same.2 b nb).trans e) ok.1 ok.2.1 ok.2.2.2.1 ok.2.2.2.2.1 ok.2.2.2.2.2
    exact ⟨u, rfl, go_of (s := { sh with heap := hp }) g1 g2 g3 (by decide) ⟨y, H, Iv2, uy, ⟨rfl, fun zs hz => (Iv.list_inj hz hs).symm ▸ hy⟩, hi2, fun b hb => (hf b hb).1⟩⟩
  done := fun X hP hw hK hc k ps sh σ H Er Iv hf hi hstop => by
    subst hP hw hK
    obtain ⟨vs, hs, hle⟩ := hstop
    obtain ⟨us, ru, pl, _⟩ := Iv.list hs
    have ok := hf itr (List.mem_singleton.mpr rfl)
    have lenu := ru.length
    obtain ⟨xa, hot⟩ := hc.at Iv
    exact list_end_hot hot hi pl.isList (by simp; omega) fun hp ext => ⟨rfl, Iv.turned (t' := sh.toks) (fun b o nb e => ext b o nb e) ok.1 ok.2.1 ok.2.2.2.1 ok.2.2.2.2.1 ok.2.2.2.2.2⟩
theorem pi_listH {X : Cx} {tg le : Expr} {tl : TE} (hle : PE X le tl) : PIH X tg le (iList X.K tl) := ⟨fun ps sh σ H R Iv hR =>
  thn (hle.run ps sh σ H _ Iv hR) fun v s1 ⟨y, H1, I1, ry, ls, ey, ⟨vs, hs⟩, hq⟩ => by
    subst ey
    cases ry
    obtain ⟨us, _, pl, _⟩ := I1.list hs
    refine wpAny_pyIter_list pl.isList ⟨s1.heap.objs.size, [s1.heap.objs.size], _, _, H1, rfl, I1.kept (t' := s1.toks) fun b o e => Heap.get?_push_of_some _ e, turn_listH ls _, ⟨_, Heap.get?_push_size _ rfl, rfl, rfl⟩, fun b hb => ?_, hq⟩
    rw [List.mem_singleton.mp hb]
    exact I1.fpOk (Nat.le_refl _) (I1.hok.fresh (Nat.le_refl _))⟩
end RRH
namespace RR
open PySem L2 Evl PyProof.Rows L2H RRH
theorem unitsH {k : Nat} {A : Around} (r : RoomH k A) : A.units + 64 < cLine := by have := r.un; omega
theorem huH {A : Around} {k : Nat} (r : RoomH k A) : A.units + 1 < cLine := by have := r.un; omega
/-- a def that is called while an exception is handled; it raises nothing -/
def DefOkH (P : Program) (w : World) (K : PySem.W.Frag) (mg : Str → Option Value) (base : Heap) (k : Nat) (x : Str) (ps : List Str) (sp : Sp) : Prop :=
  ∃ f fd, FnH P w K mg base CX0 k f fd ps sp ∧ mg x = some (.ref f) ∧ PySem.W.keepIn K (.ref f) = true ∧ Binds K fd ps []
/-- .. that raises -/
def DefOkXH (P : Program) (w : World) (K : PySem.W.Frag) (mg : Str → Option Value) (base : Heap) (k : Nat) (x : Str) (ps : List Str) (sp : Sp) : Prop :=
  ∃ f fd, FnH P w K mg base (L2.CX P w) k f fd ps sp ∧ mg x = some (.ref f) ∧ PySem.W.keepIn K (.ref f) = true ∧ Binds K fd ps []
/-- a def that raises where nothing is handled: the error's context is None -/
def DefOkXN (P : Program) (w : World) (K : PySem.W.Frag) (mg : Str → Option Value) (base : Heap) (k : Nat) (x : Str) (ps : List Str) (sp : Sp) : Prop :=
  ∃ f fd, FnOk P w K mg base (L2N.CX P w) k f fd ps sp ∧ mg x = some (.ref f) ∧ PySem.W.keepIn K (.ref f) = true ∧ Binds K fd ps []
section
variable {P : Program} {w : World} {K : PySem.W.Frag} {mg : Str → Option Value} {base : Heap}
theorem mk_defH {ι β : Type} {A : ι → Hp → List V → Prop} {Pre : ι → Prop} {F : Enc β} {Post : ι → β → Prop} {x : Str} {st : Stmt} {N ps : List Str} {k : Nat} (F0 : FunAt K mg x st) (S : FnScope N ps (defScope st))
    (bi : ∀ (kV doc pm : Value) (an : Option Addr) (cdv ct : Value) (us : List Value), us.length = ps.length → bindArgs (PySem.W.fnOf x x (defArgs st) (defBody st) (defScope st) .none kV doc pm an cdv ct) ⟨us, []⟩ = pure (ps.zip us))
    (hl : ∀ i, LenA ps.length (A i))
    (hbody : ∀ (f : Addr) (cdv : Value) (A0 : Around) (outer : List Env) (s : Shared) (E : XK) (i : ι) (B H : Hp) (vs : List V) (Q : VK) (p : Addr × Obj) (hc : HotC (cxH CX0 P w K mg base N x (defScope st) f cdv A0 outer s H E p).nox), RoomH k (A0.deeper (envOfC x (defScope st) s.heap.objs.size f cdv)) → Ex B H → A i B vs → Pre i →
      (∀ w y B2 H2, Stp B H B2 H2 → Post i y → F.R B2 w y → Q w H2) →
      ∃ t, PSs (cxH CX0 P w K mg base N x (defScope st) f cdv A0 outer s H E p).nox (defBody st) t ∧ t { nx := fun _ H' => Q .non H', rt := Q } (start N vs) H) : DefOkH P w K mg base (k + 1) x ps (Spec A Pre F Post) := by
  obtain ⟨f, fd, F1, hm⟩ := F0
  refine ⟨f, fd, ?_, hm, F1.kp, F1.binds (ps := ps) bi⟩
  obtain ⟨oc, od, kV, doc, pm, an, cdv, ct, osl, rfl, lk, hcd⟩ := F1.ex
  refine fn_ofH lk hcd S (fun vs H Q E h => ?_) (fun A0 outer s H vs Q E p hot hr h => ?_)
  · obtain ⟨i, B, _, hA, _⟩ := h
    exact hl i B vs hA
  · obtain ⟨i, B, x0, hA, hp, q⟩ := h
    obtain ⟨t, h1, h2⟩ := hbody f cdv A0 outer s E i B H vs Q p ⟨p, hot, List.mem_singleton.mpr rfl⟩ hr x0 hA hp q
    exact ⟨t, h1.nox, h2⟩
theorem mk_defRH {ι : Type} {A : ι → Hp → List V → Prop} {Pre : ι → Prop} {C : ι → Addr} {x : Str} {st : Stmt} {N ps : List Str} {k : Nat} (F0 : FunAt K mg x st) (S : FnScope N ps (defScope st))
    (bi : ∀ (kV doc pm : Value) (an : Option Addr) (cdv ct : Value) (us : List Value), us.length = ps.length → bindArgs (PySem.W.fnOf x x (defArgs st) (defBody st) (defScope st) .none kV doc pm an cdv ct) ⟨us, []⟩ = pure (ps.zip us))
    (hl : ∀ i, LenA ps.length (A i))
    (hbody : ∀ (f : Addr) (cdv : Value) (A0 : Around) (outer : List Env) (s : Shared) (E : XK) (i : ι) (B H : Hp) (vs : List V) (Q : VK) (p : Addr × Obj) (hc : HotC (cxH (L2.CX P w) P w K mg base N x (defScope st) f cdv A0 outer s H E p)), RoomH k (A0.deeper (envOfC x (defScope st) s.heap.objs.size f cdv)) → Ex B H → A i B vs → Pre i →
      (∀ B2 H2, Stp B H B2 H2 → E (.ref (C i)) none H2) →
      ∃ t, PSs (cxH (L2.CX P w) P w K mg base N x (defScope st) f cdv A0 outer s H E p) (defBody st) t ∧ t { nx := fun _ H' => Q .non H', rt := Q } (start N vs) H) : DefOkXH P w K mg base (k + 1) x ps (SpecR A Pre C) := by
  obtain ⟨f, fd, F1, hm⟩ := F0
  refine ⟨f, fd, ?_, hm, F1.kp, F1.binds (ps := ps) bi⟩
  obtain ⟨oc, od, kV, doc, pm, an, cdv, ct, osl, rfl, lk, hcd⟩ := F1.ex
  refine fn_ofH lk hcd S (fun vs H Q E h => ?_) (fun A0 outer s H vs Q E p hot hr h => ?_)
  · obtain ⟨i, B, _, hA, _⟩ := h
    exact hl i B vs hA
  · obtain ⟨i, B, x0, hA, hp, q⟩ := h
    exact hbody f cdv A0 outer s E i B H vs Q p ⟨p, hot, List.mem_singleton.mpr rfl⟩ hr x0 hA hp q
theorem mk_defRN {ι : Type} {A : ι → Hp → List V → Prop} {Pre : ι → Prop} {C : ι → Addr} {x : Str} {st : Stmt} {N ps : List Str} {k : Nat} (F0 : FunAt K mg x st) (S : FnScope N ps (defScope st))
    (bi : ∀ (kV doc pm : Value) (an : Option Addr) (cdv ct : Value) (us : List Value), us.length = ps.length → bindArgs (PySem.W.fnOf x x (defArgs st) (defBody st) (defScope st) .none kV doc pm an cdv ct) ⟨us, []⟩ = pure (ps.zip us))
    (hl : ∀ i, LenA ps.length (A i))
    (hbody : ∀ (f : Addr) (cdv : Value) (A0 : Around) (outer : List Env) (s : Shared) (E : XK) (i : ι) (B H : Hp) (vs : List V) (Q : VK), Room k (A0.deeper (envOfC x (defScope st) s.heap.objs.size f cdv)) → Ex B H → A i B vs → Pre i →
      (∀ B2 H2, Stp B H B2 H2 → E (.ref (C i)) none H2) →
      ∃ t, PSs (cxOf (L2N.CX P w) P w K mg base N x (defScope st) f cdv A0 outer s H E) (defBody st) t ∧ t { nx := fun _ H' => Q .non H', rt := Q } (start N vs) H) : DefOkXN P w K mg base (k + 1) x ps (SpecR A Pre C) := by
  obtain ⟨f, fd, F1, hm⟩ := F0
  refine ⟨f, fd, ?_, hm, F1.kp, F1.binds (ps := ps) bi⟩
  obtain ⟨oc, od, kV, doc, pm, an, cdv, ct, osl, rfl, lk, hcd⟩ := F1.ex
  refine fn_of lk hcd S (fun vs H Q E h => ?_) (fun A0 outer s H vs Q E hr h => ?_)
  · obtain ⟨i, B, _, hA, _⟩ := h
    exact hl i B vs hA
  · obtain ⟨i, B, x0, hA, hp, q⟩ := h
    exact hbody f cdv A0 outer s E i B H vs Q hr x0 hA hp q
end
section
variable {X : Cx} {k : Nat} {x : Str} {ps : List Str} {sp : Sp} {p pos : Pos} {e : Expr} {es : List Expr} {t : TA}
theorem callS_eq : tCallS sp (fun _ => E0) t = tCall sp [] E0 t := by
  funext σ H Q
  unfold tCallS tCall
  simp only [List.append_nil]
theorem pe_callDH (D : DefOkH X.prog X.w X.K X.mg X.base k x ps sp) (hr : RoomH k X.A) (hc : HotC X) (hg : Gl X x) (ha : PA X (e :: es) t) (hdb : (x == ("__debug__" : Str)) = false := by decide)
    (he : starEach (e :: es) X.env = (false, eval e X.env) :: starEach es X.env := by rfl) (hpl : (backTo pos (starEach es X.env)).any (·.1) = false := by rfl) :
    PE X (.Call (.Name x p) (e :: es) [] pos) (tCall sp [] E0 t) := by
  obtain ⟨f, fd, G, hm, hk, hb⟩ := D
  rw [← callS_eq]
  exact pe_callH G hr hc hg hm hk hb (fun _ _ _ _ _ _ _ h => h.elim) ha hdb he hpl
theorem pe_callTH {W : WX} (D : DefOkXH X.prog X.w X.K X.mg X.base k x ps sp) (hr : RoomH k X.A) (hc : HotC X) (hg : Gl X x) (tk : L2.Takes X W) (ha : PA X (e :: es) t) (hdb : (x == ("__debug__" : Str)) = false := by decide)
    (he : starEach (e :: es) X.env = (false, eval e X.env) :: starEach es X.env := by rfl) (hpl : (backTo pos (starEach es X.env)).any (·.1) = false := by rfl) :
    PE X (.Call (.Name x p) (e :: es) [] pos) (tCallS sp (WE W) t) := by
  obtain ⟨f, fd, G, hm, hk, hb⟩ := D
  exact pe_callH G hr hc hg hm hk hb (fun σ => L2.passAt tk σ) ha hdb he hpl
theorem pe_callTN {W : WX} (D : DefOkXN X.prog X.w X.K X.mg X.base k x ps sp) (hr : Room k X.A) (hg : Gl X x) (tk : L2N.Takes X W) (ha : PA X (e :: es) t) (hdb : (x == ("__debug__" : Str)) = false := by decide)
    (he : starEach (e :: es) X.env = (false, eval e X.env) :: starEach es X.env := by rfl) (hpl : (backTo pos (starEach es X.env)).any (·.1) = false := by rfl) :
    PE X (.Call (.Name x p) (e :: es) [] pos) (tCallS sp (WE W) t) := by
  obtain ⟨f, fd, G, hm, hk, hb⟩ := D
  exact pe_callS G hr hg hm hk hb (fun σ => L2N.passAt tk σ) ha hdb he hpl
theorem HotC.tr {pn : List (Addr × Obj)} {xe : Value → Shared → Prop} (hc : HotC X) (h : ∀ q ∈ X.pn, q ∈ pn) : HotC (X.tr pn xe) := by
  obtain ⟨p, h1, h2⟩ := hc
  exact ⟨p, h1, h p h2⟩
theorem HotC.suite {a : Addr} {oe : Obj} {pn : List (Addr × Obj)} {cls : Value} {d : Option Addr} (hz : L2N.Zn cls d oe) (hf : ∃ vs, oe.data = .fields vs) : HotC (X.suite a ((a, oe) :: pn)) := by
  obtain ⟨vs, hd⟩ := hf
  exact ⟨(a, oe), ⟨rfl, vs, hd, hz.2.2 vs hd⟩, List.mem_cons_self⟩
theorem takes_noneN : L2N.Takes X (fun _ _ _ _ => False) := fun _ _ ⟨_, _, _, _, _, _, _, _, _, _, _, _, _, _, _, _, w⟩ => w.elim
end
end RR
namespace RR
open PySem L2 Evl PyProof.Rows
section
variable {α β γ δ ε : Type} {E : Enc α} {F : Enc β} {G : Enc γ} {n m : Nat}
variable {te ta tb tc tl : TE} {tt : TT} {σ : L2.St} {B H B0 H0 B1 H1 : Hp} {S : α → Prop} {K : PySem.W.Frag} {D : Ends} {tu tw tz : TS} {i : Nat}
theorem es_andV {a b : Bool} (x0 : Ex B H) (ha : EvE eB ta σ B H a) (hb : a = true → EvE eB tb σ B H b) : EvE eB (tAndV ta tb) σ B H (a && b) := es_evB x0 (ev_andV (ev_sB ha) fun h => ev_sB (hb h))
theorem es_orV {a b : Bool} (x0 : Ex B H) (ha : EvE eB ta σ B H a) (hb : a = false → EvE eB tb σ B H b) : EvE eB (tOrV ta tb) σ B H (a || b) := es_evB x0 (ev_orV (ev_sB ha) fun h => ev_sB (hb h))
theorem es_notV {a : Bool} (x0 : Ex B H) (ha : EvE eB ta σ B H a) : EvE eB (tNotV ta) σ B H (!a) := es_evB x0 (ev_notV (ev_sB ha))
theorem es_len3 {t : α × β × γ} (x0 : Ex B H) (h : EvE (e3 E F G) ta σ B H t) : EvE eI (tCB (rLenS K) (tCons ta tNil)) σ B H 3 :=
  es_cb1 x0 h fun v B2 H2 x2 ⟨a, u, w, z, h1, h2, _⟩ Q k => ⟨a, _, by rw [h1], .inr (SqT.of (x2 _ _ h2)), k _ _ B2 H2 (Stp.refl x2) rfl rfl⟩
theorem es_len2 {t : α × β} (x0 : Ex B H) (h : EvE (e2 E F) ta σ B H t) : EvE eI (tCB (rLenS K) (tCons ta tNil)) σ B H 2 :=
  es_cb1 x0 h fun v B2 H2 x2 ⟨a, u, w, h1, h2, _⟩ Q k => ⟨a, _, by rw [h1], .inr (SqT.of (x2 _ _ h2)), k _ _ B2 H2 (Stp.refl x2) rfl rfl⟩
/-- xs.append(n), an int: nothing more is known -/
theorem c_appI {l : Addr} {xs : List V} {n : Int} (c : Cell H0 B H l (.lst xs)) (s0 : Stp B0 H0 B H) (ho : σ[i]? = some (some (.ref l))) (hz : xs.length < 100000) (h : EvE eI te σ B H n)
    (k : ∀ H1, Stp B0 H0 B H1 → Cell H0 B H1 l (.lst (xs ++ [.int n])) → (∀ p o, p ≠ l → Cell H0 B H p o → Cell H0 B H1 p o) → D.nx σ H1) :
    tDrop (tBM K "list" rAppend (tVar i) (tCons te tNil)) D σ H :=
  ⟨.ref l, ho, Or.inl ⟨rfl, xs, SqL.of c.h⟩, ev_sI h H (Ex.refl _) _ fun H1 e => ⟨l, xs, .int n, rfl, rfl, e _ _ c.h, sz_lt hz,
    k _ ((c.go e).mut (s0.goH e)) (c.go e).same (fun p o ne d => (d.go e).other ne)⟩⟩
/-- a list as a test -/
theorem et_truL {xs : List α} (h : ∃ v, Ev ta σ H v ∧ (eL E).R H v xs) : EvT (fun σ H Q => ta σ H fun x H' => ∃ k, TruV K x H' k ∧ Q k H') σ H (!xs.isEmpty) := fun H1 e Q q => by
  obtain ⟨v, hv, a, vs, h1, h2, h3⟩ := h
  subst h1
  refine hv H1 e _ fun H2 e2 => ⟨!xs.isEmpty, .inl ⟨vs, SqL.of (e2 _ _ (e _ _ h2)), ?_⟩, q H2 e2⟩
  have hl := pl h3
  cases xs <;> cases vs <;> first | rfl | cases hl
theorem e2_H {H : Hp} {v : V} {x : Int × Int} (h : (e2 eI eI).R H v x) : eH.R H v x := by
  obtain ⟨a, u, w, h1, h2, h3, h4⟩ := h
  cases h3
  cases h4
  exact ⟨a, [], h1, h2⟩
theorem e2s_H {H : Hp} {v : V} {xs : List (Int × Int)} (h : (eL (e2 eI eI)).R H v xs) : (eL eH).R H v xs := by
  obtain ⟨a, vs, h1, h2, h3⟩ := h
  exact ⟨a, vs, h1, h2, pmap (fun _ _ => e2_H) h3⟩
/-- sorted of a dict's keys -/
def rSortD : List V → Hp → VK → Prop := fun xs H Q => ∃ (a : Addr) (kvs : List (Key × V)) (ks : List Int), xs = [V.ref a] ∧ Rd H a (.dK kvs) ∧ kvs.map (·.1) = ks.map Sum.inl ∧ ks.length < 64 ∧
  ∀ (ys : List Int) (p : Addr), ys.Perm ks → ys.Pairwise (· ≤ ·) → H p = none → Q (.ref p) (upd H p (.lst (ys.map V.int)))
theorem cl_sortedD {X : Cx} (h : X.calm = true) : CallR X (.builtin "sorted") rSortD := call_sortedDI h
/-- rising, no two alike -/
def Up (ys : List Int) : Prop := ys.Pairwise (· < ·)
theorem up_of {ys ks : List Int} (hp : ys.Perm ks) (hs : ys.Pairwise (· ≤ ·)) (hn : ks.Nodup) : Up ys := by
  have hn2 : ys.Nodup := hp.nodup_iff.mpr hn
  clear hp
  induction ys with
  | nil => exact List.Pairwise.nil
  | cons a r ih =>
    obtain ⟨h1, h2⟩ := List.pairwise_cons.mp hs
    obtain ⟨h3, h4⟩ := List.nodup_cons.mp hn2
    refine List.pairwise_cons.mpr ⟨fun b hb => ?_, ih h2 h4⟩
    have h5 := h1 b hb
    have h6 : a ≠ b := fun q => h3 (q ▸ hb)
    omega
theorem up_ext : ∀ {xs ys : List Int}, Up xs → Up ys → (∀ v, v ∈ xs ↔ v ∈ ys) → xs = ys
  | [], [], _, _, _ => rfl
  | [], y :: ys, _, _, h => by
    have := (h y).mpr List.mem_cons_self
    cases this
  | x :: xs, [], _, _, h => by
    have := (h x).mp List.mem_cons_self
    cases this
  | x :: xs, y :: ys, hx, hy, h => by
    obtain ⟨h1, h2⟩ := List.pairwise_cons.mp hx
    obtain ⟨h3, h4⟩ := List.pairwise_cons.mp hy
    have e : x = y := by
      rcases List.mem_cons.mp ((h x).mp List.mem_cons_self) with q | q
      · exact q
      · rcases List.mem_cons.mp ((h y).mpr List.mem_cons_self) with z | z
        · exact z.symm
        · have a1 := h3 x q
          have a2 := h1 y z
          omega
    subst e
    rw [up_ext h2 h4 fun v => ?_]
    constructor
    · intro hv
      rcases List.mem_cons.mp ((h v).mp (List.mem_cons_of_mem _ hv)) with q | q
      · subst q
        have := h1 v hv
        omega
      · exact q
    · intro hv
      rcases List.mem_cons.mp ((h v).mpr (List.mem_cons_of_mem _ hv)) with q | q
      · subst q
        have := h3 v hv
        omega
      · exact q
theorem up_rg (n : Int) : Up (rg n) := by
  unfold rg Up
  rw [List.pairwise_map]
  exact List.pairwise_lt_range.imp fun h => by omega
theorem up_filter {ys : List Int} (p : Int → Bool) (h : Up ys) : Up (ys.filter p) := List.Pairwise.sublist List.filter_sublist h
theorem up_nodup {ys : List Int} (h : Up ys) : ys.Nodup := List.Pairwise.imp (fun h => by omega) h
theorem em_sortD {ks : List Int} (x0 : Ex B H) (h : EvE eD ta σ B H ks) (hz : ks.length < 64) (hn : ks.Nodup) : EvM eI (tCB rSortD (tCons ta tNil)) σ B H (fun ys => Up ys ∧ ∀ v, v ∈ ys ↔ v ∈ ks) :=
  em_cb1 x0 h fun v B2 H2 x2 ⟨a, kvs, h1, h2, h3⟩ Q k => ⟨a, kvs, ks, by rw [h1], .inl (x2 _ _ h2), h3, hz, fun ys p hp hs hq => k p _ ⟨ys, ⟨up_of hp hs hn, fun v => hp.mem_iff⟩, pI' ys⟩ hq⟩
theorem em_sortDS {T : List Int → Prop} (x0 : Ex B H) (h : EvS eD ta σ B H T) (hz : ∀ ks, T ks → ks.length < 64 ∧ ks.Nodup) : EvM eI (tCB rSortD (tCons ta tNil)) σ B H (fun ys => Up ys ∧ ∃ ks, T ks ∧ ∀ v, v ∈ ys ↔ v ∈ ks) := fun H1 e Q k =>
  h H1 e _ fun v ks B2 H2 t hT ⟨a, kvs, h1, h2, h3⟩ => ⟨a, kvs, ks, by rw [h1], .inl (t.bh _ _ h2), h3, (hz ks hT).1, fun ys p hp hs hq =>
    k p _ ys B2 _ (t.goH (Ex.new hq)) (fresh_back t.eh hq) (fresh_back t.bh hq) upd_same ⟨up_of hp hs (hz ks hT).2, ks, hT, fun v => hp.mem_iff⟩ (pI' ys)⟩
/-- tuple(..) of what is known in part -/
theorem es_tupLS {T : List α → Prop} (x0 : Ex B H) (h : EvS (eL E) ta σ B H T) : EvS (eT E) (tCB (rTupS' K) (tCons ta tNil)) σ B H T := fun H1 e Q k =>
  h H1 e _ fun v xs B2 H2 t hT ⟨a, vs, h1, h2, h3⟩ => ⟨a, vs, by rw [h1], .inl ⟨SqL.of (t.bh _ _ h2), fun l hl => k (.ref l) xs (upd B2 l (.tup vs)) _ (t.trans (Stp.new t.bh hl)) hT ⟨l, vs, rfl, upd_same, E.ups (Ex.new (fresh_back t.bh hl)) h3⟩⟩⟩
/-- a module's number -/
theorem pe_gI {X : Cx} {x : Str} {n : Int} {pos : Pos} (hg : Gl X x) (h : ∃ t, X.mg x = some (.int n t)) (hd : (x == ("__debug__" : Str)) = false := by decide) : PE X (.Name x pos) (tC (.int n)) := by
  obtain ⟨t, h⟩ := h
  exact pe_glob hg h ⟨t, rfl⟩ hd
end

/-! ### rules with K told apart (within a comprehension) -/
section
variable {X : Cx} {K : PySem.W.Frag}
theorem k_in (h : X.K = K) : OpR X (compareOp .In) (rIn K false) := h ▸ op_in_seq
theorem k_notin (h : X.K = K) : OpR X (compareOp .NotIn) (rIn K true) := h ▸ op_notIn_seq
theorem k_ixl (h : X.K = K) : IxR X (rIxL K) := h ▸ ix_list
theorem k_ixt (h : X.K = K) : IxR X (rIxT K) := h ▸ ix_tup
theorem k_sll (h : X.K = K) : SlR X (rSlL K) := h ▸ sl_list
theorem k_len (h : X.K = K) : CallR X (.builtin "len") (rLenS K) := h ▸ cl_len
theorem k_list (h : X.K = K) : CallR X (.type "list") (rListS' K) := h ▸ cl_list
theorem k_tuple (h : X.K = K) : CallR X (.type "tuple") (rTupS' K) := h ▸ cl_tuple
theorem k_sum (c : X.calm = true) (h : X.K = K) : CallR X (.builtin "sum") (rSum K) := h ▸ cr_sum c
theorem k_min (c : X.calm = true) (h : X.K = K) : CallR X (.builtin "min") (rMin K) := h ▸ cr_min c
theorem k_max (c : X.calm = true) (h : X.K = K) : CallR X (.builtin "max") (rMax K) := h ▸ cr_max c
theorem k_isi (h : X.K = K) : CallR X (.builtin "isinstance") (rIsi K) := h ▸ call_isi
theorem k_eqD (hu : X.A.units + 64 < cLine) (h : X.K = K) : OpR X (compareOp .Eq) (rEqD K) := h ▸ op_eqD hu
theorem k_neD (hu : X.A.units + 64 < cLine) (h : X.K = K) : OpR X (compareOp .NotEq) (rNeD K) := h ▸ op_neD hu
end

/-! ### what can be come to -/
inductive Rch (es : List (Int × Int)) (s : Int) : Int → Prop
  | refl : Rch es s s
  | step {v w : Int} : Rch es s v → (v, w) ∈ es → Rch es s w
theorem Rch.trans {es : List (Int × Int)} {a b c : Int} (h : Rch es a b) (k : Rch es b c) : Rch es a c := by
  induction k with
  | refl => exact h
  | step _ e ih => exact .step ih e
theorem Rch.head {es : List (Int × Int)} {a b c : Int} (h : (a, b) ∈ es) (k : Rch es b c) : Rch es a c := Rch.trans (.step .refl h) k
theorem Rch.closed {es : List (Int × Int)} {s v : Int} {P : Int → Prop} (h : Rch es s v) (h0 : P s) (hc : ∀ a b, (a, b) ∈ es → P a → P b) : P v := by
  induction h with
  | refl => exact h0
  | step _ e ih => exact hc _ _ e ih
theorem Rch.mono {es fs : List (Int × Int)} {s v : Int} (h : Rch es s v) (k : ∀ e ∈ es, e ∈ fs) : Rch fs s v := by
  induction h with
  | refl => exact .refl
  | step _ e ih => exact .step ih (k _ e)
/-- the roads turned round -/
def turned (es : List (Int × Int)) : List (Int × Int) := es.map fun e => (e.2, e.1)
theorem mem_turned {es : List (Int × Int)} {a b : Int} : (a, b) ∈ turned es ↔ (b, a) ∈ es := by
  unfold turned
  rw [List.mem_map]
  constructor
  · rintro ⟨⟨x, y⟩, h, e⟩
    cases e
    exact h
  · intro h
    exact ⟨(b, a), h, rfl⟩
theorem rch_turned {es : List (Int × Int)} {a b : Int} : Rch (turned es) a b ↔ Rch es b a := by
  constructor
  · intro h
    induction h with
    | refl => exact .refl
    | step _ e ih => exact Rch.head (mem_turned.mp e) ih
  · intro h
    induction h with
    | refl => exact .refl
    | step _ e ih => exact Rch.head (mem_turned.mpr e) ih
def ends (rs : List Road) : List (Int × Int) := rs.map fun r => (r.1, r.2.1)
theorem mem_ends {rs : List Road} {a b : Int} : (a, b) ∈ ends rs ↔ ∃ r ∈ rs, r.1 = a ∧ r.2.1 = b := by
  unfold ends
  rw [List.mem_map]
  constructor
  · rintro ⟨r, h, e⟩
    cases e
    exact ⟨r, h, rfl, rfl⟩
  · rintro ⟨r, h, rfl, rfl⟩
    exact ⟨r, h, rfl⟩
/-- within nought and m -/
def InE (m : Int) (es : List (Int × Int)) : Prop := ∀ e ∈ es, 0 ≤ e.1 ∧ e.1 < m ∧ 0 ≤ e.2 ∧ e.2 < m
theorem Rch.inE {es : List (Int × Int)} {m s v : Int} (h : Rch es s v) (hs : 0 ≤ s ∧ s < m) (he : InE m es) : 0 ≤ v ∧ v < m :=
  h.closed (P := fun v => 0 ≤ v ∧ v < m) hs fun a b q _ => ⟨(he _ q).2.2.1, (he _ q).2.2.2⟩
/-- different numbers below n are at most n -/
theorem nodup_le : ∀ {n : Nat} {ks : List Int}, ks.Nodup → (∀ k ∈ ks, 0 ≤ k ∧ k < (n : Int)) → ks.length ≤ n
  | 0, [], _, _ => Nat.le_refl _
  | 0, k :: _, _, h => by
    have := h k List.mem_cons_self
    omega
  | n + 1, ks, hn, h => by
    have ih := nodup_le (n := n) (hn.erase (n : Int)) fun k hk => by
      have h1 := (hn.mem_erase_iff).mp hk
      have h2 := h k h1.2
      have h3 := h1.1
      omega
    rw [List.length_erase] at ih
    split at ih <;> omega
structure Net (m : Int) (rs : List Road) : Prop where
  lo : 1 ≤ m
  hi : m ≤ 12
  len : rs.length ≤ 60
  ok : ∀ r ∈ rs, OkR m r
theorem Net.inE {m : Int} {rs : List Road} (h : ∀ r ∈ rs, OkR m r) : InE m (ends rs) := by
  rintro ⟨a, b⟩ he
  obtain ⟨r, hr, rfl, rfl⟩ := mem_ends.mp he
  obtain ⟨h1, h2, h3, h4, _⟩ := h r hr
  exact ⟨h1, h2, h3, h4⟩
theorem InE.turned {m : Int} {es : List (Int × Int)} (h : InE m es) : InE m (turned es) := by
  rintro ⟨a, b⟩ he
  obtain ⟨h1, h2, h3, h4⟩ := h _ (mem_turned.mp he)
  exact ⟨h3, h4, h1, h2⟩
end RR
namespace RR
open PySem L2 Evl PyProof.Rows
/-! ### a thing in a tree's list -/
inductive Th where
  | non : Th
  | int (n : Int) : Th
  | no : Th
def Th.isInt : Th → Bool
  | .int _ => true
  | _ => false
def Th.isNon : Th → Bool
  | .non => true
  | _ => false
/-- neither None nor a whole number -/
inductive OddV (H : Hp) : V → Prop
  | bl (b : Bool) : OddV H (.bl b)
  | str (z : Str) : OddV H (.str z)
  | lst {a : Addr} {xs : List V} (e : H a = some (.lst xs)) : OddV H (.ref a)
  | tup {a : Addr} {xs : List V} (e : H a = some (.tup xs)) : OddV H (.ref a)
  | dic {a : Addr} {kvs : List (Key × V)} (e : H a = some (.dK kvs)) : OddV H (.ref a)
theorem OddV.up {H H' : Hp} {v : V} (e : Ex H H') (h : OddV H v) : OddV H' v := by
  cases h with
  | bl b => exact .bl b
  | str z => exact .str z
  | lst q => exact .lst (e _ _ q)
  | tup q => exact .tup (e _ _ q)
  | dic q => exact .dic (e _ _ q)
def eTh : Enc Th := ⟨fun H v t => match t with
  | .non => v = .non
  | .int n => v = .int n
  | .no => OddV H v, fun {H H' v t} e h => by
  cases t with
  | non => exact h
  | int n => exact h
  | no => exact OddV.up e h⟩
theorem k_si : kitB "str" "int" = some false := by decide +kernel
theorem k_li : kitB "list" "int" = some false := by decide +kernel
theorem k_ti : kitB "tuple" "int" = some false := by decide +kernel
theorem k_di : kitB "dict" "int" = some false := by decide +kernel
theorem k_sb : kitB "str" "bool" = some false := by decide +kernel
theorem k_lb : kitB "list" "bool" = some false := by decide +kernel
theorem k_tb : kitB "tuple" "bool" = some false := by decide +kernel
theorem k_db : kitB "dict" "bool" = some false := by decide +kernel
theorem th_ty {K : PySem.W.Frag} {B : Hp} {v : V} {t : Th} (h : eTh.R B v t) : ∃ a b1 b2, (∀ H', Ex B H' → TyX K H' v (.type a)) ∧ kitB a "int" = some b1 ∧ kitB a "bool" = some b2 ∧ (b1 && !b2) = t.isInt := by
  cases t with
  | non =>
    have h : v = .non := h
    subst h
    exact ⟨_, _, _, fun _ _ => .base .non, k_ni, k_nb, rfl⟩
  | int n =>
    have h : v = .int n := h
    subst h
    exact ⟨_, _, _, fun _ _ => .base (.int n), k_ii, k_ib, rfl⟩
  | no =>
    have h : OddV B v := h
    cases h with
    | bl b => exact ⟨_, _, _, fun _ _ => .base (.bl b), k_bi, k_bb, rfl⟩
    | str z => exact ⟨_, _, _, fun _ _ => .base (.str z), k_si, k_sb, rfl⟩
    | lst q => exact ⟨_, _, _, fun _ e => .base (.lst (e _ _ q)), k_li, k_lb, rfl⟩
    | tup q => exact ⟨_, _, _, fun _ e => .base (.tup (e _ _ q)), k_ti, k_tb, rfl⟩
    | dic q => exact ⟨_, _, _, fun _ e => .base (.dK (e _ _ q)), k_di, k_db, rfl⟩
theorem th_non {B : Hp} {v : V} {t : Th} (h : eTh.R B v t) : decide (v = V.non) = t.isNon := by
  cases t with
  | non =>
    have h : v = .non := h
    subst h
    rfl
  | int n =>
    have h : v = .int n := h
    subst h
    exact decide_eq_false fun z => nomatch z
  | no =>
    have h : OddV B v := h
    cases h <;> exact decide_eq_false fun z => nomatch z
def thO : Option Int → Th
  | none => .non
  | some n => .int n
theorem thO_R {B : Hp} {v : V} {o : Option Int} (h : eO.R B v o) : eTh.R B v (thO o) := by
  cases o with
  | none => exact h
  | some n => exact h
theorem thOs_R {B : Hp} : ∀ {vs : List V} {os : List (Option Int)}, Paired (eO.R B) vs os → Paired (eTh.R B) vs (os.map thO)
  | _, _, .nil => .nil
  | _, _, .cons r t => .cons (thO_R r) (thOs_R t)
section
variable {α : Type} {te ta tb : TE} {σ : L2.St} {B H : Hp} {K : PySem.W.Frag} {i : Nat}
theorem es_isiTy {c a : String} {b : Bool} {v : V} (x0 : Ex B H) (ho : σ[i]? = some (some v)) (ty : ∀ H', Ex B H' → TyX K H' v (.type a)) (h : kitB a c = some b) : EvE eB (tCB (rIsi K) (tCons (tVar i) (tCons (tC (.ty c)) tNil))) σ B H b := fun H1 e Q k =>
  ⟨v, ho, v, .ty c, _, _, b, rfl, .ty c, ty H1 (x0.trans e), kit_ty h, k _ _ B H1 (Stp.refl (x0.trans e)) rfl rfl⟩
/-- isinstance(x, int) and not isinstance(x, bool) -/
theorem es_wholeTh {v : V} {t : Th} (x0 : Ex B H) (ho : σ[i]? = some (some v)) (hr : eTh.R B v t) :
    EvE eB (tAndV (tCB (rIsi K) (tCons (tVar i) (tCons (tC (.ty "int")) tNil))) (tNotV (tCB (rIsi K) (tCons (tVar i) (tCons (tC (.ty "bool")) tNil))))) σ B H t.isInt := by
  obtain ⟨a, b1, b2, ty, h1, h2, e⟩ := th_ty (K := K) hr
  exact (es_andV x0 (es_isiTy x0 ho ty h1) fun _ => es_notV x0 (es_isiTy x0 ho ty h2)).to e
/-- not isinstance(x, int) or isinstance(x, bool) or .. -/
theorem et_noWhole {v : V} {t : Th} {tt : TT} {b : Bool} (x0 : Ex B H) (ho : σ[i]? = some (some v)) (hr : eTh.R B v t) (h : t.isInt = true → EvT tt σ H b) :
    EvT (tOr (tNot (tB (tCB (rIsi K) (tCons (tVar i) (tCons (tC (.ty "int")) tNil))))) (tOr (tB (tCB (rIsi K) (tCons (tVar i) (tCons (tC (.ty "bool")) tNil)))) tt)) σ H (!t.isInt || b) := by
  obtain ⟨a, b1, b2, ty, h1, h2, e⟩ := th_ty (K := K) hr
  rw [← e]
  cases b1 with
  | false => exact et_or (b := b) (et_not (et_sB (es_isiTy x0 ho ty h1))) fun z => by cases z
  | true =>
    cases b2 with
    | true => exact et_or (b := true) (et_not (et_sB (es_isiTy x0 ho ty h1))) fun _ => et_or (b := b) (et_sB (es_isiTy x0 ho ty h2)) fun z => by cases z
    | false => exact et_or (et_not (et_sB (es_isiTy x0 ho ty h1))) fun _ => et_or (et_sB (es_isiTy x0 ho ty h2)) fun _ => h (by rw [← e]; rfl)
theorem es_isNTh {t : Th} (x0 : Ex B H) (ha : EvE eTh ta σ B H t) : EvE eB (tOp (fun x y H Q => y = V.non ∧ Q (.bl (decide (x = .non))) H) ta (tC .non)) σ B H t.isNon :=
  es_op x0 ha (es_non x0) fun v w B2 H2 _ hv hw => ⟨_, rfl, fun Q q => by
    cases hw
    exact ⟨rfl, by rw [th_non hv]; exact q⟩⟩
theorem es_notNTh {t : Th} (x0 : Ex B H) (ha : EvE eTh ta σ B H t) : EvE eB (tOp (fun x y H Q => y = V.non ∧ Q (.bl (!decide (x = .non))) H) ta (tC .non)) σ B H (!t.isNon) :=
  es_op x0 ha (es_non x0) fun v w B2 H2 _ hv hw => ⟨_, rfl, fun Q q => by
    cases hw
    exact ⟨rfl, by rw [th_non hv]; exact q⟩⟩
theorem es_thI {n : Int} (h : EvE eTh te σ B H (.int n)) : EvE eI te σ B H n := fun H1 e Q k => h H1 e Q fun v x B2 H2 t hS hR => by
  subst hS
  exact k v n B2 H2 t rfl hR
theorem es_ITh {n : Int} (h : EvE eI te σ B H n) : EvE eTh te σ B H (.int n) := fun H1 e Q k => h H1 e Q fun v x B2 H2 t hS hR => by
  subst hS
  exact k v (.int x) B2 H2 t rfl hR
end
/-! ### trees as lists of things -/
def InT (rs : List Road) (t : List Th) (v : Int) : Prop := ∃ n r, t[v.toNat]? = some (.int n) ∧ 0 ≤ n ∧ rs[n.toNat]? = some r ∧ r.2.1 = v
/-- a step back -/
def stOf (rs : List Road) (t : List Th) (v : Int) : Int := match t[v.toNat]? with
  | some (.int n) => (rs.getD n.toNat (0, 0, 0)).1
  | _ => 0
def goB (rs : List Road) (t : List Th) (root v : Int) : Int := if v = root then root else stOf rs t v
def itn (g : Int → Int) : Nat → Int → Int
  | 0, v => v
  | k + 1, v => g (itn g k v)
structure IsTree (m : Int) (rs : List Road) (root : Int) (t : List Th) : Prop where
  len : t.length = m.toNat
  rt : t[root.toNat]? = some .non
  inn : ∀ v, 0 ≤ v → v < m → v ≠ root → InT rs t v
  back : ∀ v, 0 ≤ v → v < m → itn (goB rs t root) m.toNat v = root
theorem itn_add (g : Int → Int) : ∀ (a b : Nat) (v : Int), itn g (a + b) v = itn g a (itn g b v)
  | 0, b, v => by rw [Nat.zero_add]; rfl
  | a + 1, b, v => by
    rw [show a + 1 + b = (a + b) + 1 by omega]
    show g (itn g (a + b) v) = g (itn g a (itn g b v))
    rw [itn_add g a b v]
theorem itn_fix {g : Int → Int} {r : Int} (h : g r = r) : ∀ k, itn g k r = r
  | 0 => rfl
  | k + 1 => by
    show g (itn g k r) = r
    rw [itn_fix h k, h]
theorem stOf_eq {rs : List Road} {t : List Th} {v n : Int} {r : Road} (h1 : t[v.toNat]? = some (.int n)) (h2 : rs[n.toNat]? = some r) : stOf rs t v = r.1 := by
  unfold stOf
  rw [h1]
  show (rs.getD n.toNat (0, 0, 0)).1 = r.1
  rw [List.getD_eq_getElem?_getD, h2]
  rfl
theorem goB_root (rs : List Road) (t : List Th) (root : Int) : goB rs t root root = root := if_pos rfl
/-- steps back stay within the places -/
theorem goB_in {m root : Int} {rs : List Road} {t : List Th} (hok : ∀ r ∈ rs, OkR m r) (h0 : 0 ≤ root) (h1 : root < m) (hin : ∀ v, 0 ≤ v → v < m → v ≠ root → InT rs t v) {v : Int} (a : 0 ≤ v) (b : v < m) : 0 ≤ goB rs t root v ∧ goB rs t root v < m := by
  unfold goB
  by_cases e : v = root
  · rw [if_pos e]
    exact ⟨h0, h1⟩
  · rw [if_neg e]
    obtain ⟨n, r, k1, k2, k3, k4⟩ := hin v a b e
    rw [stOf_eq k1 k3]
    obtain ⟨q1, q2, _⟩ := hok r (List.mem_of_getElem? k3)
    exact ⟨q1, q2⟩
theorem itn_in {m : Int} {g : Int → Int} (hg : ∀ v, 0 ≤ v → v < m → 0 ≤ g v ∧ g v < m) {v : Int} (a : 0 ≤ v) (b : v < m) : ∀ k, 0 ≤ itn g k v ∧ itn g k v < m
  | 0 => ⟨a, b⟩
  | k + 1 => by
    have := itn_in hg a b k
    exact hg _ this.1 this.2
/-- where one comes to the root at all, one comes to it within m steps -/
theorem itn_most {m root : Int} {g : Int → Int} (hr : g root = root) (h0 : 0 ≤ root) (h1 : root < m) (hg : ∀ v, 0 ≤ v → v < m → 0 ≤ g v ∧ g v < m) {v : Int} (a : 0 ≤ v) (b : v < m) (h : ∃ k, itn g k v = root) : itn g m.toNat v = root := by
  obtain ⟨k, hk, hmin⟩ : ∃ k, itn g k v = root ∧ ∀ j, j < k → itn g j v ≠ root := by
    obtain ⟨k, hk⟩ := h
    induction k using Nat.strongRecOn with
    | _ k ih =>
      by_cases hx : ∃ j, j < k ∧ itn g j v = root
      · obtain ⟨j, hj, e⟩ := hx
        exact ih j hj e
      · exact ⟨k, hk, fun j hj e => hx ⟨j, hj, e⟩⟩
  have hnd : (root :: (List.range k).map fun j => itn g j v).Nodup := by
    refine List.nodup_cons.mpr ⟨fun hm => ?_, List.pairwise_map.mpr ((List.pairwise_lt_range (n := k)).imp_of_mem fun {x y} hx hy hxy e => ?_)⟩
    · obtain ⟨j, hj, e⟩ := List.mem_map.mp hm
      exact hmin j (List.mem_range.mp hj) e
    · rw [List.mem_range] at hx hy
      refine hmin (k - y + x) (by omega) ?_
      rw [itn_add, e, ← itn_add, show k - y + y = k by omega]
      exact hk
  have hle := nodup_le (n := m.toNat) hnd fun x hx => by
    rcases List.mem_cons.mp hx with q | q
    · subst q
      omega
    · obtain ⟨j, _, rfl⟩ := List.mem_map.mp q
      have := itn_in hg a b j
      omega
  rw [List.length_cons, List.length_map, List.length_range] at hle
  rw [show m.toNat = (m.toNat - k) + k by omega, itn_add, hk]
  exact itn_fix hr _
/-- a ring without the root -/
theorem itn_ring {root p : Int} {g : Int → Int} {L i : Nat} (hi : i < L) (h : ∀ j, j < L → itn g j p ≠ root) (e : itn g L p = itn g i p) : ∀ k, itn g k p ≠ root := fun k => by
  induction k using Nat.strongRecOn with
  | _ k ih =>
    by_cases hk : k < L
    · exact h k hk
    · have : itn g k p = itn g (k - L + i) p := by
        rw [itn_add, ← e, ← itn_add, show k - L + L = k by omega]
      rw [this]
      exact ih _ (by omega)
end RR
namespace RR
open PySem L2 Evl PyProof.Rows
/-! ### marks: going along the roads again and again -/
def Mk (bs : List Bool) (v : Int) : Prop := bs[v.toNat]? = some true
def Shut (rs : List Road) (bs : List Bool) : Prop := ∀ r ∈ rs, Mk bs r.1 → Mk bs r.2.1
structure Sound (m : Int) (rs : List Road) (root : Int) (bs : List Bool) : Prop where
  len : bs.length = m.toNat
  snd : ∀ v, 0 ≤ v → Mk bs v → Rch (ends rs) root v
  rt : Mk bs root
def cnt (bs : List Bool) : Nat := bs.count true
theorem cnt_le (bs : List Bool) : cnt bs ≤ bs.length := List.count_le_length
theorem cnt_set : ∀ {bs : List Bool} {i : Nat}, bs[i]? = some false → cnt (bs.set i true) = cnt bs + 1
  | [], i, h => by simp at h
  | b :: r, 0, h => by
    simp at h
    subst h
    simp [cnt]
  | b :: r, i + 1, h => by
    have ih := cnt_set (bs := r) (i := i) (by simpa using h)
    unfold cnt at ih ⊢
    rw [List.set_cons_succ, List.count_cons, List.count_cons, ih]
    omega
theorem mk_set {bs : List Bool} {i : Nat} {v : Int} (hi : i < bs.length) : Mk (bs.set i true) v ↔ (v.toNat = i ∨ Mk bs v) := by
  unfold Mk
  rw [List.getElem?_set]
  by_cases h : i = v.toNat
  · subst h
    rw [if_pos rfl, if_pos hi]
    simp
  · rw [if_neg h]
    have h' : ¬ v.toNat = i := fun q => h q.symm
    simp [h']
theorem Sound.set {m : Int} {rs : List Road} {root : Int} {bs : List Bool} {r : Road} (h : Sound m rs root bs) (hr : r ∈ rs) (ho : OkR m r) (h1 : Mk bs r.1) : Sound m rs root (bs.set r.2.1.toNat true) := by
  obtain ⟨k1, k2, k3, k4, _⟩ := ho
  have hi : r.2.1.toNat < bs.length := by rw [h.len]; omega
  refine ⟨by rw [List.length_set]; exact h.len, fun v hv hm => ?_, (mk_set hi).mpr (.inr h.rt)⟩
  rcases (mk_set hi).mp hm with e | hm
  · have e2 : v = r.2.1 := by omega
    rw [e2]
    exact .step (h.snd r.1 k1 h1) (mem_ends.mpr ⟨r, hr, rfl, rfl⟩)
  · exact h.snd v hv hm
theorem Sound.all {m : Int} {rs : List Road} {root : Int} {bs : List Bool} (h : Sound m rs root bs) (hs : Shut rs bs) {v : Int} (hv : 0 ≤ v) : Mk bs v ↔ Rch (ends rs) root v := by
  refine ⟨h.snd v hv, fun r => r.closed (P := fun v => Mk bs v) h.rt fun a b e ha => ?_⟩
  obtain ⟨r, hr, rfl, rfl⟩ := mem_ends.mp e
  exact hs r hr ha
/-- within a turn that began with b0, behind i of the roads -/
def Within (rs : List Road) (b0 : List Bool) (i : Nat) (bs : List Bool) : Prop := (bs = b0 ∧ ∀ j r, j < i → rs[j]? = some r → Mk b0 r.1 → Mk b0 r.2.1) ∨ (cnt b0 < cnt bs ∧ ¬ Shut rs b0)
theorem within_start (rs : List Road) (b0 : List Bool) : Within rs b0 0 b0 := .inl ⟨rfl, fun _ _ h => absurd h (Nat.not_lt_zero _)⟩
theorem within_no {rs : List Road} {b0 bs : List Bool} {i : Nat} {r : Road} (h : Within rs b0 i bs) (hr : rs[i]? = some r) (hn : ¬ Mk bs r.1) : Within rs b0 (i + 1) bs := by
  rcases h with ⟨e, h⟩ | h
  · subst e
    refine .inl ⟨rfl, fun j z hj hz hm => ?_⟩
    by_cases q : j = i
    · subst q
      rw [hr] at hz
      cases hz
      exact absurd hm hn
    · exact h j z (by omega) hz hm
  · exact .inr h
theorem within_yes {rs : List Road} {b0 bs : List Bool} {i : Nat} {r : Road} (h : Within rs b0 i bs) (hr : rs[i]? = some r) (hi : r.2.1.toNat < bs.length) (h1 : Mk bs r.1) : Within rs b0 (i + 1) (bs.set r.2.1.toNat true) := by
  cases hb : bs[r.2.1.toNat] with
  | true =>
    have hb' : bs[r.2.1.toNat]? = some true := by rw [List.getElem?_eq_getElem hi, hb]
    rw [set_same hb']
    rcases h with ⟨e, h⟩ | h
    · subst e
      refine .inl ⟨rfl, fun j z hj hz hm => ?_⟩
      by_cases q : j = i
      · subst q
        rw [hr] at hz
        cases hz
        exact hb'
      · exact h j z (by omega) hz hm
    · exact .inr h
  | false =>
    have hb' : bs[r.2.1.toNat]? = some false := by rw [List.getElem?_eq_getElem hi, hb]
    have hc := cnt_set hb'
    rcases h with ⟨e, h⟩ | ⟨h, hs⟩
    · subst e
      refine .inr ⟨by omega, fun sh => ?_⟩
      have := sh r (List.mem_of_getElem? hr) h1
      unfold Mk at this
      rw [hb'] at this
      cases this
    · exact .inr ⟨by omega, hs⟩
/-- behind t turns -/
def Turned (rs : List Road) (t : Nat) (bs : List Bool) : Prop := Shut rs bs ∨ t + 1 ≤ cnt bs
theorem turned_next {rs : List Road} {t : Nat} {b0 bs : List Bool} (h : Turned rs t b0) (w : Within rs b0 rs.length bs) : Turned rs (t + 1) bs := by
  rcases w with ⟨e, w⟩ | ⟨w, hs⟩
  · subst e
    refine .inl fun r hr hm => ?_
    obtain ⟨j, hj⟩ := List.mem_iff_getElem?.mp hr
    exact w j r (List.getElem?_eq_some_iff.mp hj).1 hj hm
  · rcases h with h | h
    · exact absurd h hs
    · exact .inr (by omega)
theorem turned_end {rs : List Road} {bs : List Bool} {t : Nat} (h : Turned rs t bs) (hl : bs.length = t) : Shut rs bs := by
  rcases h with h | h
  · exact h
  · have := cnt_le bs
    omega
theorem cnt_pos {bs : List Bool} {v : Int} (h : Mk bs v) : 1 ≤ cnt bs := List.count_pos_iff.mpr (List.mem_of_getElem? h)
/-- the first marks -/
theorem marks0 {m root : Int} {rs : List Road} (h0 : 0 ≤ root) (h1 : root < m) : Sound m rs root ((rg m).map fun k => decide (k = root)) := by
  have hg : ∀ v : Int, 0 ≤ v → (Mk ((rg m).map fun k => decide (k = root)) v ↔ v = root ∧ v < m) := fun v hv => by
    unfold Mk
    by_cases hm : v < m
    · rw [List.getElem?_map, rg_get (by omega), Int.toNat_of_nonneg hv]
      simp [hm]
    · rw [List.getElem?_eq_none (by rw [List.length_map, rg_len]; omega)]
      simp [hm]
  refine ⟨by rw [List.length_map, rg_len], fun v hv hm => ?_, (hg root h0).mpr ⟨rfl, h1⟩⟩
  rw [((hg v hv).mp hm).1]
  exact .refl
theorem mapB (bs : List Bool) (i : Nat) (b : Bool) : (bs.set i b).map V.bl = (bs.map V.bl).set i (V.bl b) := by rw [List.map_set]
theorem pB {H : Hp} : ∀ {vs : List V} {bs : List Bool}, Paired (eB.R H) vs bs → vs = bs.map V.bl
  | _, _, .nil => rfl
  | _, _, .cons r t => by
    rw [pB t, show _ = V.bl _ from r]
    rfl
theorem pB' {H : Hp} : ∀ (bs : List Bool), Paired (eB.R H) (bs.map V.bl) bs
  | [] => .nil
  | _ :: r => .cons rfl (pB' r)
/-- (root + a) round m and (root + k) round m -/
theorem round_ne {m r a k : Int} (h0 : 0 ≤ r) (h1 : r < m) (ha : 0 ≤ a) (hak : a < k) (hk : k < m) : 0 ≤ (r + a) % m ∧ (r + a) % m < m ∧ 0 ≤ (r + k) % m ∧ (r + k) % m < m ∧ (r + a) % m ≠ (r + k) % m := by
  rw [emod_add_lt h0 h1 ha (by omega), emod_add_lt h0 h1 (by omega) hk]
  split <;> split <;> omega
end RR
namespace RR
open PySem L2 Evl PyProof.Rows
section
variable {α β γ δ ε : Type} {E : Enc α} {F : Enc β} {G : Enc γ} {n m : Nat}
variable {te ta tb tc tl : TE} {tt : TT} {σ : L2.St} {B H B0 H0 B1 H1 : Hp} {K : PySem.W.Frag} {D : Ends} {tu tw tz : TS} {i : Nat}
theorem k_catA {X : Cx} {K : PySem.W.Frag} (h : X.K = K) : OpR X (binaryOp .Add) (rCatA K) := h ▸ op_catA
theorem em_catS {S T : List α → Prop} (x0 : Ex B H) (ha : EvS (eL E) ta σ B H S) (hb : EvS (eL E) tb σ B H T) (hz : ∀ xs ys, S xs → T ys → xs.length + ys.length ≤ 100000) : EvM E (tOp rCat ta tb) σ B H (fun zs => ∃ xs ys, S xs ∧ T ys ∧ zs = xs ++ ys) := fun H1 e Q k =>
  ha H1 e _ fun v xs B2 H2 t hx hR =>
    hb.up ((Stp.go x0 e).trans t) H2 (Ex.refl _) _ fun w ys B3 H3 t2 hy hR2 => by
      obtain ⟨a, vs, rfl, q2, q3⟩ := hR
      obtain ⟨b, ws, rfl, q5, q6⟩ := hR2
      refine ⟨a, b, vs, ws, rfl, rfl, t2.bh _ _ (t2.eb _ _ q2), t2.bh _ _ q5, sz_of (by rw [pl q3, pl q6]; exact hz xs ys hx hy), fun p hp => ?_⟩
      have s := t.trans t2
      exact k p _ _ B3 _ (s.goH (Ex.new hp)) (fresh_back s.eh hp) (fresh_back s.bh hp) upd_same ⟨xs, ys, hx, hy, rfl⟩ (papp (E.ups t2.eb q3) q6)
theorem cutP_from (xs : List α) {c : Int} (h0 : 0 ≤ c) (h1 : c ≤ (xs.length : Int)) : cutP xs (some c) none = xs.drop c.toNat := by
  unfold cutP HT.sIx
  simp only
  have e : (if c < 0 then (c + (xs.length : Int)).toNat else min c.toNat xs.length) = c.toNat := by
    rw [if_neg (by omega)]
    omega
  first
    | (rw [e]; exact List.take_of_length_le (by rw [List.length_drop]; omega))
    | (simp [h0]; omega)
theorem cutP_to (xs : List α) {c : Int} (h0 : 0 ≤ c) (h1 : c ≤ (xs.length : Int)) : cutP xs none (some c) = xs.take c.toNat := by
  unfold cutP HT.sIx
  simp only
  have e : (if c < 0 then (c + (xs.length : Int)).toNat else min c.toNat xs.length) = c.toNat := by
    rw [if_neg (by omega)]
    omega
  first
    | (rw [e]; simp)
    | simp
theorem cutP_seg (xs : List α) {a b : Int} (ha : 0 ≤ a) (hb : 0 ≤ b) : (cutP xs (some a) (some b)).length ≤ (b - a).toNat := by
  unfold cutP HT.sIx
  simp only
  rw [List.length_take, List.length_drop]
  have e : ∀ c : Int, 0 ≤ c → (if c < 0 then (c + (xs.length : Int)).toNat else min c.toNat xs.length) = min c.toNat xs.length := fun c hc => if_neg (by omega)
  rw [e a ha, e b hb]
  omega
/-- t + u -/
theorem es_catT {S T : List α → Prop} (x0 : Ex B H) (ha : EvS (eT E) ta σ B H S) (hb : EvS (eT E) tb σ B H T) (hz : ∀ xs ys, S xs → T ys → xs.length + ys.length ≤ 100000) : EvS (eT E) (tOp (rCatA K) ta tb) σ B H (fun zs => ∃ xs ys, S xs ∧ T ys ∧ zs = xs ++ ys) := fun H1 e Q k =>
  ha H1 e _ fun v xs B2 H2 t hx hR =>
    hb.up ((Stp.go x0 e).trans t) H2 (Ex.refl _) _ fun w ys B3 H3 t2 hy hR2 => by
      obtain ⟨a, vs, rfl, q2, q3⟩ := hR
      obtain ⟨b, ws, rfl, q5, q6⟩ := hR2
      have q2' := t2.eb _ _ q2
      have q3' := E.ups t2.eb q3
      have s := t.trans t2
      refine ⟨a, b, vs, ws, rfl, rfl, SqT.of (t2.bh _ _ q2'), SqT.of (t2.bh _ _ q5), sz_of (by rw [pl q3, pl q6]; exact hz xs ys hx hy), fun e1 => ?_, fun e1 e2 => ?_, fun e1 e2 p hp => ?_⟩
      · subst e1
        cases q3'
        exact k _ ys B3 H3 s ⟨[], ys, hx, hy, rfl⟩ ⟨b, ws, rfl, q5, q6⟩
      · subst e2
        cases q6
        exact k _ xs B3 H3 s ⟨xs, [], hx, hy, (List.append_nil xs).symm⟩ ⟨a, vs, rfl, q2', q3'⟩
      · exact k _ _ (upd B3 p (.tup (vs ++ ws))) _ (s.trans (Stp.new t2.bh hp)) ⟨xs, ys, hx, hy, rfl⟩ ⟨p, _, rfl, upd_same, E.ups (Ex.new (fresh_back t2.bh hp)) (papp q3' q6)⟩
/-- if c: x = e -/
theorem c_ifSetI {b : Bool} {T : Int → Prop} (ht : EvT tt σ H b) (x0 : Ex B H) (h1 : b = true → EvS eI te σ B H T) (h2 : b = false → ∃ n, σ[i]? = some (some (.int n)) ∧ T n) (k : ∀ n B1 H1, Stp B H B1 H1 → T n → D.nx (σ.set i (some (.int n))) H1) :
    tIfS tt (tAsg te (gName i)) tNext D σ H :=
  s_when ht (fun hb H1 e => (h1 hb).up (Stp.go x0 e) H1 (Ex.refl _) _ fun v n B1 H2 s hT hR => by
    cases hR
    exact k n B1 H2 ((Stp.go x0 e).trans s) hT) (fun hb H1 e => by
    obtain ⟨n, hn, hT⟩ := h2 hb
    have q := k n B H1 (Stp.go x0 e) hT
    rw [set_same hn] at q
    exact q)
theorem q_ifSetE {b : Bool} {T : α → Prop} (ht : EvT tt σ H b) (x0 : Ex B H) (h1 : b = true → EvS E te σ B H T) (h2 : b = false → ∃ v y, σ[i]? = some (some v) ∧ T y ∧ E.R B v y) (k : ∀ v y B1 H1, Stp B H B1 H1 → T y → E.R B1 v y → tz D (σ.set i (some v)) H1) :
    tSeq (tIfS tt (tAsg te (gName i)) tNext) tz D σ H :=
  q_when ht (fun hb H1 e => (h1 hb).up (Stp.go x0 e) H1 (Ex.refl _) _ fun v n B1 H2 s hT hR => k v n B1 H2 ((Stp.go x0 e).trans s) hT hR) (fun hb H1 e => by
    obtain ⟨v, y, hn, hT, hR⟩ := h2 hb
    have q := k v y B H1 (Stp.go x0 e) hT hR
    rw [set_same hn] at q
    exact q)
theorem es_tup1S {S : α → Prop} (x0 : Ex B H) (ha : EvS E ta σ B H S) : EvS (eT E) (tTup (tCons ta tNil)) σ B H (fun xs => ∃ x, S x ∧ xs = [x]) := fun H1 e Q k =>
  ea_c (S := S) x0 mono_aN ha (ea_n x0) H1 e _ fun vs B2 H2 t hA => by
    obtain ⟨v, x, r, rfl, hS, hx, rfl⟩ := hA
    exact ⟨by show 1 ≤ sizeLine; decide, fun p hp => k (.ref p) [x] (upd B2 p (.tup [v])) _ (t.trans (Stp.new t.bh hp)) ⟨x, hS, rfl⟩ ⟨p, [v], rfl, upd_same, .cons (E.up (Ex.new (fresh_back t.bh hp)) hx) .nil⟩⟩
theorem em_lst2S {S T : α → Prop} (x0 : Ex B H) (ha : EvS E ta σ B H S) (hb : EvS E tb σ B H T) : EvM E (tLst (tCons ta (tCons tb tNil))) σ B H (fun xs => ∃ x y, S x ∧ T y ∧ xs = [x, y]) := fun H1 e Q k =>
  ea_c (S := S) x0 (mono_aC mono_aN) ha (ea_c (S := T) x0 mono_aN hb (ea_n x0)) H1 e _ fun vs B2 H2 t hA => by
    obtain ⟨v, x, r, rfl, hS, hx, w, y, r', rfl, hT, hy, rfl⟩ := hA
    exact ⟨by show 2 ≤ sizeLine; decide, fun p hp => k p [v, w] [x, y] B2 _ (t.goH (Ex.new hp)) (fresh_back t.eh hp) (fresh_back t.bh hp) upd_same ⟨x, y, hS, hT, rfl⟩ (.cons hx (.cons hy .nil))⟩
theorem es_ixLMS {S : List α → Prop} {j : Int} (x0 : Ex B H) (ha : EvS (eL E) ta σ B H S) (hb : EvE eI tb σ B H j) (h0 : 0 ≤ j) (h1 : ∀ xs, S xs → j < (xs.length : Int)) : EvS E (tOp (rIxL K) ta tb) σ B H (fun x => ∃ xs, S xs ∧ x ∈ xs) := fun H1 e Q k =>
  ha H1 e _ fun v xs B2 H2 t hS hR =>
    hb.up ((Stp.go x0 e).trans t) H2 (Ex.refl _) _ fun w j' B3 H3 t2 hj hw => by
      cases hj
      obtain ⟨a, vs, h1', h2, h3⟩ := (eL E).up t2.eb hR
      have hj : j.toNat < xs.length := by have := h1 xs hS; omega
      obtain ⟨u, h4, h5⟩ := pget h3 (List.getElem?_eq_getElem hj)
      exact ⟨a, vs, j, u, h1', hw, SqL.of (t2.bh _ _ h2), atI_of h0 h4, k u _ B3 H3 (t.trans t2) ⟨xs, hS, List.getElem_mem hj⟩ h5⟩
/-- a list of two unlike things -/
def eL2 (E : Enc α) (F : Enc β) : Enc (α × β) := ⟨fun H v x => ∃ a u w, v = .ref a ∧ H a = some (.lst [u, w]) ∧ E.R H u x.1 ∧ F.R H w x.2, fun e ⟨a, u, w, h1, h2, h3, h4⟩ => ⟨a, u, w, h1, e _ _ h2, E.up e h3, F.up e h4⟩⟩
def deL2 (D : De E n) (D' : De F m) : De (eL2 E F) (n + m + 1) := ⟨fun x => .list [D.d x.1, D'.d x.2], fun ⟨a, u, w, h1, h2, h3, h4⟩ => by
  subst h1
  exact .lst (SqL.of h2) (.cons (D.ok h3) (.cons (D'.ok h4) .nil)), fun x => by
    show (PyData.canLay0 (D.d x.1) && (PyData.canLay0 (D'.d x.2) && true)) = true
    rw [D.lay, D'.lay]
    rfl, fun x => by
    show max (PyData.depth (D.d x.1)) (max (PyData.depth (D'.d x.2)) 0) + 1 ≤ n + m + 1
    have h1 := D.dep x.1
    have h2 := D'.dep x.2
    omega⟩
theorem es_lst2 {x : α} {y : β} (x0 : Ex B H) (ha : EvE E ta σ B H x) (hb : EvE F tb σ B H y) : EvE (eL2 E F) (tLst (tCons ta (tCons tb tNil))) σ B H (x, y) := fun H1 e Q k =>
  ea_c x0 (mono_aC mono_aN) ha (ea_c x0 mono_aN hb (ea_n x0)) H1 e _ fun vs B2 H2 t hA => by
    obtain ⟨v, x', r, rfl, hS, hx, w, y', r', rfl, hT, hy, rfl⟩ := hA
    cases hS
    cases hT
    exact ⟨by show 2 ≤ sizeLine; decide, fun p hp => k (.ref p) (x, y) (upd B2 p (.lst [v, w])) _ (t.trans (Stp.new t.bh hp)) rfl ⟨p, v, w, rfl, upd_same, E.up (Ex.new (fresh_back t.bh hp)) hx, F.up (Ex.new (fresh_back t.bh hp)) hy⟩⟩
theorem es_l20 {t : α × β} (x0 : Ex B H) (ha : EvE (eL2 E F) ta σ B H t) : EvE E (tOp (rIxL K) ta (tC (.int 0))) σ B H t.1 :=
  es_op x0 ha (es_int x0) fun v w B2 H2 x2 ⟨a, u, w', h1, h2, h3, h4⟩ hw => ⟨u, h3, fun Q q => ⟨a, _, 0, u, h1, hw, SqL.of (x2 _ _ h2), atI_nat (j := 0) rfl, q⟩⟩
theorem es_l21 {t : α × β} (x0 : Ex B H) (ha : EvE (eL2 E F) ta σ B H t) : EvE F (tOp (rIxL K) ta (tC (.int 1))) σ B H t.2 :=
  es_op x0 ha (es_int x0) fun v w B2 H2 x2 ⟨a, u, w', h1, h2, h3, h4⟩ hw => ⟨w', h4, fun Q q => ⟨a, _, 1, w', h1, hw, SqL.of (x2 _ _ h2), atI_nat (j := 1) rfl, q⟩⟩
/-- min, max of two -/
def rMin2 : List V → Hp → VK → Prop := fun xs H Q => ∃ i j, xs = [V.int i, V.int j] ∧ Q (.int (if j < i then j else i)) H
theorem cl_min2 {X : Cx} (h : X.calm = true) : CallR X (.builtin "min") rMin2 := call_min2 h
theorem cl_max2 {X : Cx} (h : X.calm = true) : CallR X (.builtin "max") rMax2 := call_max2 h
theorem es_min2 {x y : Int} (x0 : Ex B H) (ha : EvE eI ta σ B H x) (hb : EvE eI tb σ B H y) : EvE eI (tCB rMin2 (tCons ta (tCons tb tNil))) σ B H (if y < x then y else x) :=
  es_cb2 x0 ha hb fun v w B2 H2 x2 hv hw Q k => ⟨x, y, by rw [show v = _ from hv, show w = _ from hw], k _ _ B2 H2 (Stp.refl x2) rfl rfl⟩
theorem es_max2 {x y : Int} (x0 : Ex B H) (ha : EvE eI ta σ B H x) (hb : EvE eI tb σ B H y) : EvE eI (tCB rMax2 (tCons ta (tCons tb tNil))) σ B H (if y > x then y else x) :=
  es_cb2 x0 ha hb fun v w B2 H2 x2 hv hw Q k => ⟨x, y, by rw [show v = _ from hv, show w = _ from hw], k _ _ B2 H2 (Stp.refl x2) rfl rfl⟩
/-- x = xs.pop(j) -/
theorem q_popAt {l : Addr} {xs : List V} {y : V} {j : Int} {r : Nat} (c : Cell H0 B H l (.lst xs)) (s0 : Stp B0 H0 B H) (ho : σ[i]? = some (some (.ref l))) (h : EvE eI te σ H H j) (h0 : 0 ≤ j) (hz : j < 100000) (hj : xs[j.toNat]? = some y)
    (k : ∀ H1, Stp B0 H0 B H1 → Cell H0 B H1 l (.lst (xs.eraseIdx j.toNat)) → (∀ p o, p ≠ l → Cell H0 B H p o → Cell H0 B H1 p o) → tz D (σ.set r (some y)) H1) :
    tSeq (tAsg (tBM K "list" rPopAt (tVar i) (tCons te tNil)) (gName r)) tz D σ H :=
  ⟨.ref l, ho, Or.inl ⟨rfl, xs, SqL.of c.h⟩, ev_sI h H (Ex.refl _) _ fun H1 e => ⟨l, xs, j, j.toNat, y, rfl, rfl, e _ _ c.h, by omega, by omega, by
    have hl := (List.getElem?_eq_some_iff.mp hj).1
    unfold seqIndex?
    first
      | (simp; omega)
      | (rw [if_neg (by omega)]; simp; omega)
      | (split <;> simp <;> omega), hj, k _ ((c.go e).mut (s0.goH e)) (c.go e).same (fun p o ne d => (d.go e).other ne)⟩⟩
/-- lo, lo + 1, .. below n -/
def rg2 (lo n : Int) : List Int := (List.range (n - lo).toNat).map fun (k : Nat) => lo + (k : Int)
theorem rg2_len (lo n : Int) : (rg2 lo n).length = (n - lo).toNat := by
  unfold rg2
  rw [List.length_map, List.length_range]
theorem rg2_get {lo n : Int} {i : Nat} (h : i < (n - lo).toNat) : (rg2 lo n)[i]? = some (lo + (i : Int)) := by
  unfold rg2
  rw [List.getElem?_map, List.getElem?_range h]
  rfl
theorem em_lcR2 {lo n : Int} {p : Int → Bool} {Tr : Int → β → Prop} {j : Nat} {vs : List Nat} (x0 : Ex B H) (h1 : EvE eI ta σ B H lo) (h : EvE eI tl σ B H n) (hz : -20000 ≤ lo ∧ lo ≤ 20000 ∧ -20000 ≤ n ∧ n ≤ 20000)
    (hw : ∀ v, wipe ((wipe σ vs).set j (some v)) vs = wipe σ vs)
    (ht : ∀ (k : Int) B1 H1, Stp B H B1 H1 → lo ≤ k → k < n → EvT tt ((wipe σ vs).set j (some (.int k))) H1 (p k))
    (he : ∀ (k : Int) B1 H1, Stp B H B1 H1 → lo ≤ k → k < n → p k = true → EvS F te ((wipe σ vs).set j (some (.int k))) B1 H1 (Tr k)) :
    EvM F (tLc (iRng2 (tCons ta (tCons tl tNil))) (gName j) tt te vs) σ B H (fun ys => Paired Tr ((rg2 lo n).filter p) ys) := fun H0 e Q k =>
  h1 H0 e _ fun v x' B1 H1 t hx hR => by
    cases hx
    cases hR
    exact h.up ((Stp.go x0 e).trans t) H1 (Ex.refl _) _ fun v2 x2 B2 H2 t2 hx2 hR2 => by
      cases hx2
      cases hR2
      have s0 := ((Stp.go x0 e).trans t).trans t2
      refine ⟨lo, n, rfl, ⟨by omega, by omega, by omega, by omega⟩, fun D hD => lc_range (lo := lo) (n := (n - lo).toNat) (Lw F Tr p B2 H2 D (rg2 lo n)) (lw_start t2.bh hD) (fun i H' hi hP => ?_) (fun H' hP => ?_)⟩
      · exact ⟨hw _, lw_turn hP (rg2_get hi) (by omega) (fun B' s => ht _ B' H' (s0.trans s) (by omega) (by omega)) (fun hp B' s => he _ B' H' (s0.trans s) (by omega) (by omega) hp)⟩
      · obtain ⟨B', acc, ys, s, c, q1, q2, q3⟩ := hP
        rw [← rg2_len lo n, List.take_length] at q2
        exact k D acc ys B' H' ((t.trans t2).trans s) (fresh_back (t.eh.trans t2.eh) hD) c.b c.h q2 q1
/-- xs == [] -/
theorem es_eqNil {xs : List α} (De1 : De E n) (hn : n + 1 ≤ 64) (x0 : Ex B H) (ha : EvE (eL E) ta σ B H xs) : EvE eB (tOp (rEqD K) ta (tLst tNil)) σ B H xs.isEmpty :=
  (es_eqD (deL De1) (deL De1) hn hn x0 ha (em_nil (E := E) x0).s).to (by
    cases xs with
    | nil => exact SeqAt.eqv_refl _ rfl
    | cons x r => rfl)
theorem perase {R : V → α → Prop} : ∀ (i : Nat) {vs : List V} {xs : List α}, Paired R vs xs → Paired R (vs.eraseIdx i) (xs.eraseIdx i)
  | _, _, _, .nil => .nil
  | 0, _, _, .cons _ t => t
  | i + 1, _, _, .cons r t => .cons r (perase i t)
theorem es_sumS {S : List Int → Prop} (x0 : Ex B H) (h : EvS (eL eI) ta σ B H S) : EvS eI (tCB (rSum K) (tCons ta tNil)) σ B H (fun y => ∃ ns, S ns ∧ y = ns.sum) := fun H1 e Q k =>
  h H1 e _ fun v ns B2 H2 t hS hR => by
    obtain ⟨a, h1, h2⟩ := eLI hR
    exact ⟨a, ns, by rw [h1], SqL.of (t.bh _ _ h2), k _ _ B2 H2 t ⟨ns, hS, rfl⟩ rfl⟩
theorem em_lst1S {S : α → Prop} (x0 : Ex B H) (ha : EvS E ta σ B H S) : EvM E (tLst (tCons ta tNil)) σ B H (fun xs => ∃ x, S x ∧ xs = [x]) := fun H1 e Q k =>
  ea_c (S := S) x0 mono_aN ha (ea_n x0) H1 e _ fun vs B2 H2 t hA => by
    obtain ⟨v, x, r, rfl, hS, hx, rfl⟩ := hA
    exact ⟨by show 1 ≤ sizeLine; decide, fun p hp => k p [v] [x] B2 _ (t.goH (Ex.new hp)) (fresh_back t.eh hp) (fresh_back t.bh hp) upd_same ⟨x, hS, rfl⟩ (.cons hx .nil)⟩
end
end RR
namespace RR
open PySem L2 Evl PyProof.Rows
def mixedM (c k : Int) : Int := (c * 16807 + k * k * 7919 + k * 48271 + 11) % 2147483647
theorem mixedM_b (c k : Int) : 0 ≤ mixedM c k ∧ mixedM c k < 2147483647 := ⟨Int.emod_nonneg _ (by decide), Int.emod_lt_of_pos _ (by decide)⟩
theorem mixedM_bd (c k : Int) : Bd (mixedM c k) := Bd.small (by have := mixedM_b c k; omega)
theorem okr_ends {m s d : Int} (hm : 2 ≤ m) (h0 : 0 ≤ s) (h1 : s < m) (h2 : 0 ≤ d) (h3 : d < m - 1) : 0 ≤ (s + 1 + d) % m ∧ (s + 1 + d) % m < m ∧ s ≠ (s + 1 + d) % m := by
  have e : s + 1 + d = s + (1 + d) := by omega
  rw [e, emod_add_lt h0 h1 (by omega) (by omega)]
  split <;> omega
def comesIn (r : Road) (g : List Int) : Bool := decide (r.2.1 ∈ g) && !decide (r.1 ∈ g)
def intoM (rs : List Road) (g : List Int) : List Int := sel (fun r => comesIn r g) rs rs.length
abbrev Price := List Int × Int
abbrev eP : Enc Price := e2 (eT eI) eI
/-- what a road bears -/
def borne (r : Road) (ps : List Price) : Int := (ps.map fun p => if comesIn r p.1 then p.2 else 0).sum
theorem borne_nil (r : Road) : borne r [] = 0 := rfl
theorem borne_snoc (r : Road) (ps : List Price) (p : Price) : borne r (ps ++ [p]) = borne r ps + if comesIn r p.1 then p.2 else 0 := by
  unfold borne
  rw [List.map_append, List.sum_append]
  simp
/-- the list of f of each road -/
def Each (rs : List Road) (f : Nat → Road → Int) (ls : List Int) : Prop := ls.length = rs.length ∧ ∀ n r, rs[n]? = some r → ls[n]? = some (f n r)
theorem Each.congr {rs : List Road} {f g : Nat → Road → Int} {ls : List Int} (h : Each rs f ls) (e : ∀ n r, rs[n]? = some r → f n r = g n r) : Each rs g ls := ⟨h.1, fun n r hr => by rw [h.2 n r hr, e n r hr]⟩
theorem Each.set {rs : List Road} {f : Nat → Road → Int} {ls : List Int} {k : Nat} {v : Int} (h : Each rs f ls) (hk : k < rs.length) : Each rs (fun n r => if n = k then v else f n r) (ls.set k v) := by
  refine ⟨by rw [List.length_set]; exact h.1, fun n r hr => ?_⟩
  rw [List.getElem?_set]
  by_cases e : k = n
  · subst e
    rw [if_pos rfl, if_pos (by rw [h.1]; exact hk)]
    show some v = some (if k = k then v else f k r)
    rw [if_pos rfl]
  · rw [if_neg e]
    show ls[n]? = some (if n = k then v else f n r)
    rw [if_neg (fun q : n = k => e q.symm)]
    exact h.2 n r hr
theorem each_map (rs : List Road) (g : Road → Int) : Each rs (fun _ r => g r) (rs.map g) := ⟨by rw [List.length_map], fun n r hr => by rw [List.getElem?_map, hr]; rfl⟩
theorem each_eq {rs : List Road} {g : Road → Int} {ls : List Int} (h : Each rs (fun _ r => g r) ls) : ls = rs.map g := by
  refine List.ext_getElem? fun n => ?_
  rw [List.getElem?_map]
  cases hr : rs[n]? with
  | none =>
    have := List.getElem?_eq_none_iff.mp hr
    exact List.getElem?_eq_none (by rw [h.1]; exact this)
  | some r => exact h.2 n r hr
theorem sel_nodup {α : Type} (p : α → Bool) (xs : List α) (i : Nat) : (sel p xs i).Nodup := by
  refine up_nodup ?_
  unfold sel Up
  rw [List.pairwise_map]
  exact (List.Pairwise.sublist List.filter_sublist List.pairwise_lt_range).imp fun h => by omega
def leftM (rs : List Road) (ps : List Price) : List Int := rs.map fun r => r.2.2 - borne r ps
/-- one number more is taken off -/
theorem each_off {rs : List Road} {g : Road → Int} {ls ns : List Int} {j k : Nat} {pr : Int} (h : Each rs (fun n r => g r - if (n : Int) ∈ ns.take j then pr else 0) ls) (hn : ns.Nodup) (hj : ns[j]? = some (k : Int)) (hk : k < rs.length) {x : Int} (hx : ls[k]? = some x) :
    Each rs (fun n r => g r - if (n : Int) ∈ ns.take (j + 1) then pr else 0) (ls.set k (x - pr)) := by
  have hr : rs[k]? = some rs[k] := List.getElem?_eq_getElem hk
  have h1 := h.2 k _ hr
  rw [hx] at h1
  have hnot : ¬ (k : Int) ∈ ns.take j := fun hm => by
    obtain ⟨i, hi, e⟩ := List.mem_take_iff_getElem.mp hm
    obtain ⟨h2, e2⟩ := List.getElem?_eq_some_iff.mp hj
    have := (List.getElem_inj hn).mp (e.trans e2.symm)
    omega
  have h1 : x = g rs[k] - if (k : Int) ∈ ns.take j then pr else 0 := Option.some.inj h1
  rw [if_neg hnot] at h1
  refine (h.set (v := x - pr) hk).congr fun n r hr' => ?_
  have hta : ns.take (j + 1) = ns.take j ++ [(k : Int)] := by rw [List.take_add_one, hj, Option.toList_some]
  rw [hta]
  by_cases e : n = k
  · subst e
    rw [if_pos rfl, if_pos (List.mem_append_right _ (List.mem_singleton.mpr rfl))]
    rw [hr] at hr'
    cases hr'
    omega
  · rw [if_neg e]
    by_cases hm : (n : Int) ∈ ns.take j
    · rw [if_pos hm, if_pos (List.mem_append_left _ hm)]
    · rw [if_neg hm, if_neg]
      intro q
      rcases List.mem_append.mp q with q | q
      · exact hm q
      · have := List.mem_singleton.mp q
        omega
structure IsGroup (m root : Int) (g : List Int) : Prop where
  ne : g ≠ []
  nr : ¬ root ∈ g
  inm : ∀ v ∈ g, 0 ≤ v ∧ v < m
  up : Up g
/-- the first i are places, rising -/
def GroupTo (m : Int) (g : List Int) (i : Nat) : Prop := (∀ v ∈ g.take i, 0 ≤ v ∧ v < m) ∧ Up (g.take i)
theorem group0 (m : Int) (g : List Int) : GroupTo m g 0 := ⟨fun v h => (by rw [List.take_zero] at h; cases h), by rw [List.take_zero]; exact List.Pairwise.nil⟩
theorem take_next {α : Type} {xs : List α} {i : Nat} {x : α} (h : xs[i]? = some x) : xs.take (i + 1) = xs.take i ++ [x] := by rw [List.take_add_one, h, Option.toList_some]
theorem up_snoc {xs : List Int} {x : Int} : Up (xs ++ [x]) ↔ Up xs ∧ ∀ y ∈ xs, y < x := by
  unfold Up
  rw [List.pairwise_append]
  simp
/-- all below the next one, as the last is -/
theorem up_last {xs : List Int} {i : Nat} {x y : Int} (h : Up (xs.take (i + 1))) (hy : xs[i]? = some y) (hxy : y < x) : ∀ z ∈ xs.take (i + 1), z < x := fun z hz => by
  rw [take_next hy] at h hz
  rcases List.mem_append.mp hz with q | q
  · have := (up_snoc.mp h).2 z q
    omega
  · rw [List.mem_singleton.mp q]
    exact hxy
theorem group_next {m : Int} {g : List Int} {i : Nat} {x : Int} (h : GroupTo m g i) (hx : g[i]? = some x) (h0 : 0 ≤ x ∧ x < m) (h1 : ∀ j y, i = j + 1 → g[j]? = some y → y < x) : GroupTo m g (i + 1) := by
  rw [GroupTo, take_next hx]
  refine ⟨fun v hv => ?_, up_snoc.mpr ⟨h.2, ?_⟩⟩
  · rcases List.mem_append.mp hv with q | q
    · exact h.1 v q
    · rw [List.mem_singleton.mp q]
      exact h0
  · cases i with
    | zero => intro y hy; rw [List.take_zero] at hy; cases hy
    | succ j =>
      have hj : j < g.length := by
        have := (List.getElem?_eq_some_iff.mp hx).1
        omega
      exact up_last h.2 (List.getElem?_eq_getElem hj) (h1 j _ rfl (List.getElem?_eq_getElem hj))
theorem group_all {m : Int} {g : List Int} (h : GroupTo m g g.length) : (∀ v ∈ g, 0 ≤ v ∧ v < m) ∧ Up g := by
  rw [GroupTo, List.take_length] at h
  exact h
theorem up_lt {g : List Int} (h : Up g) {i : Nat} {x y : Int} (hx : g[i]? = some x) (hy : g[i + 1]? = some y) : x < y := by
  obtain ⟨h1, rfl⟩ := List.getElem?_eq_some_iff.mp hx
  obtain ⟨h2, rfl⟩ := List.getElem?_eq_some_iff.mp hy
  exact List.pairwise_iff_getElem.mp h i (i + 1) h1 h2 (by omega)
def bothN (a b : List Int) : Nat := (a.filter fun v => decide (v ∈ b)).length
/-- one lies within the other and is another one, or they are apart -/
def AgreeP (a b : List Int) : Prop := bothN a b = 0 ∨ ((bothN a b = a.length ∨ bothN a b = b.length) ∧ a.length ≠ b.length)
theorem both_comm {a b : List Int} (ha : Up a) (hb : Up b) : (a.filter fun v => decide (v ∈ b)) = b.filter fun v => decide (v ∈ a) := by
  refine up_ext (up_filter _ ha) (up_filter _ hb) fun v => ?_
  rw [List.mem_filter, List.mem_filter]
  simp [and_comm]
theorem bothN_comm {a b : List Int} (ha : Up a) (hb : Up b) : bothN a b = bothN b a := by
  unfold bothN
  rw [both_comm ha hb]
theorem bothN_le (a b : List Int) : bothN a b ≤ a.length := List.length_filter_le _ _
theorem bothN_le' {a b : List Int} (ha : Up a) (hb : Up b) : bothN a b ≤ b.length := by
  rw [bothN_comm ha hb]
  exact bothN_le _ _
theorem both_same {a b : List Int} (ha : Up a) (hb : Up b) (h1 : bothN a b = a.length) (h2 : a.length = b.length) : a = b := by
  have e1 : (a.filter fun v => decide (v ∈ b)) = a := List.filter_eq_self.mpr (List.length_filter_eq_length_iff.mp h1)
  have e2 : (b.filter fun v => decide (v ∈ a)) = b := List.filter_eq_self.mpr (List.length_filter_eq_length_iff.mp (by
    show bothN b a = b.length
    rw [← bothN_comm ha hb, h1, h2]))
  rw [← e1, both_comm ha hb, e2]
theorem bothN_self (a : List Int) : bothN a a = a.length := by
  unfold bothN
  rw [List.filter_eq_self.mpr fun v hv => decide_eq_true hv]
theorem agree_min {a b : List Int} (ha : Up a) (hb : Up b) : AgreeP a b ↔ (bothN a b = 0 ∨ ((bothN a b : Int) = (if (b.length : Int) < (a.length : Int) then (b.length : Int) else (a.length : Int)) ∧ (a.length : Int) ≠ (b.length : Int))) := by
  have h1 := bothN_le a b
  have h2 := bothN_le' ha hb
  unfold AgreeP
  split <;> omega
/-- the law's words -/
theorem agree_law {a b : List Int} (ha : Up a) (hb : Up b) (ha0 : a ≠ []) : AgreeP b a ↔ ¬ (a = b ∨ (0 < bothN a b ∧ bothN a b < a.length ∧ bothN a b < b.length)) := by
  have h1 := bothN_le a b
  have h2 := bothN_le' ha hb
  have hl : 0 < a.length := List.length_pos_iff.mpr ha0
  unfold AgreeP
  rw [bothN_comm hb ha]
  constructor
  · rintro h (e | h3)
    · subst e
      rw [bothN_self] at h
      omega
    · omega
  · intro h
    by_cases hz : bothN a b = 0
    · exact .inl hz
    · refine .inr ⟨?_, fun e => h (.inl ?_)⟩
      · have : ¬ (0 < bothN a b ∧ bothN a b < a.length ∧ bothN a b < b.length) := fun q => h (.inr q)
        omega
      · have h3 : ¬ (0 < bothN a b ∧ bothN a b < a.length ∧ bothN a b < b.length) := fun q => h (.inr q)
        exact both_same ha hb (by omega) e.symm
noncomputable def pd (p : Prop) : Bool := @decide p (Classical.propDecidable p)
theorem pd_true {p : Prop} : pd p = true ↔ p := by
  unfold pd
  exact @decide_eq_true_iff p (Classical.propDecidable p)
theorem pd_false {p : Prop} : pd p = false ↔ ¬ p := by
  unfold pd
  exact @decide_eq_false_iff_not p (Classical.propDecidable p)
theorem es_dec {te : TE} {σ : L2.St} {B H : Hp} {p : Prop} (h : EvS eB te σ B H (fun y => y = true ↔ p)) : EvE eB te σ B H (pd p) := h.imp fun y hy => by
  cases y with
  | true => exact (pd_true.mpr (hy.mp rfl)).symm
  | false => exact (pd_false.mpr fun q => by cases hy.mpr q).symm
structure PairsTo (m root : Int) (ps : List Price) (i : Nat) : Prop where
  one : ∀ j p, j < i → ps[j]? = some p → IsGroup m root p.1 ∧ 1 ≤ p.2
  two : ∀ j k p q, k < j → j < i → ps[j]? = some p → ps[k]? = some q → AgreeP q.1 p.1
structure IsPrices (m root : Int) (rs : List Road) (ps : List Price) : Prop where
  pairs : PairsTo m root ps ps.length
  left : ∀ r ∈ rs, borne r ps ≤ r.2.2
theorem pairs0 (m root : Int) (ps : List Price) : PairsTo m root ps 0 := ⟨fun _ _ h => absurd h (Nat.not_lt_zero _), fun _ _ _ _ _ h => absurd h (Nat.not_lt_zero _)⟩
theorem pairs_next {m root : Int} {ps : List Price} {i : Nat} {p : Price} (h : PairsTo m root ps i) (hp : ps[i]? = some p) (h1 : IsGroup m root p.1 ∧ 1 ≤ p.2) (h2 : ∀ k q, k < i → ps[k]? = some q → AgreeP q.1 p.1) : PairsTo m root ps (i + 1) :=
  ⟨fun j q hj hq => by
    by_cases e : j = i
    · subst e
      rw [hp] at hq
      cases hq
      exact h1
    · exact h.one j q (by omega) hq, fun j k q r hk hj hq hr => by
    by_cases e : j = i
    · subst e
      rw [hp] at hq
      cases hq
      exact h2 k r hk hr
    · exact h.two j k q r hk (by omega) hq hr⟩
/-- ahead of a turn of the while: ks are met, ws wait -/
structure Led (es : List (Int × Int)) (s : Int) (ks ws : List Int) : Prop where
  nd : ks.Nodup
  hs : s ∈ ks
  rch : ∀ k ∈ ks, Rch es s k
  sub : ∀ k ∈ ws, k ∈ ks
  wk : ws.length ≤ ks.length
  cl : ∀ a b, (a, b) ∈ es → a ∈ ks → ¬ a ∈ ws → b ∈ ks
/-- within a turn, at place p, behind i of the roads -/
structure LedIn (es : List (Int × Int)) (s p : Int) (i : Nat) (ks ws : List Int) : Prop where
  nd : ks.Nodup
  hs : s ∈ ks
  rch : ∀ k ∈ ks, Rch es s k
  sub : ∀ k ∈ ws, k ∈ ks
  wk : ws.length ≤ ks.length
  cl : ∀ a b, (a, b) ∈ es → a ∈ ks → ¬ a ∈ ws → a ≠ p → b ∈ ks
  hp : p ∈ ks
  here : ∀ j b, j < i → es[j]? = some (p, b) → b ∈ ks
theorem led_start {es : List (Int × Int)} {s : Int} : Led es s [s] [s] :=
  ⟨by simp, List.mem_singleton.mpr rfl, fun k hk => by rw [List.mem_singleton.mp hk]; exact .refl, fun k hk => hk, Nat.le_refl _, fun a b _ h1 h2 => absurd h1 h2⟩
theorem led_pop {es : List (Int × Int)} {s p : Int} {ks ws : List Int} (h : Led es s ks (ws ++ [p])) : LedIn es s p 0 ks ws :=
  ⟨h.nd, h.hs, h.rch, fun k hk => h.sub k (List.mem_append_left _ hk), by have := h.wk; rw [List.length_append, List.length_singleton] at this; omega, fun a b he h1 h2 h3 => h.cl a b he h1 fun q => by
    rcases List.mem_append.mp q with q | q
    · exact h2 q
    · exact h3 (List.mem_singleton.mp q), h.sub p (List.mem_append_right _ (List.mem_singleton.mpr rfl)), fun j b hj => absurd hj (Nat.not_lt_zero _)⟩
theorem led_skip {es : List (Int × Int)} {s p : Int} {i : Nat} {ks ws : List Int} {e : Int × Int} (h : LedIn es s p i ks ws) (he : es[i]? = some e) (hb : ¬ (e.1 = p ∧ ¬ e.2 ∈ ks)) : LedIn es s p (i + 1) ks ws :=
  ⟨h.nd, h.hs, h.rch, h.sub, h.wk, h.cl, h.hp, fun j b hj hx => by
    by_cases q : j = i
    · subst q
      rw [he] at hx
      cases hx
      exact Classical.byContradiction fun z => hb ⟨rfl, z⟩
    · exact h.here j b (by omega) hx⟩
theorem led_add {es : List (Int × Int)} {s p : Int} {i : Nat} {ks ws : List Int} {e : Int × Int} (h : LedIn es s p i ks ws) (he : es[i]? = some e) (h1 : e.1 = p) (h2 : ¬ e.2 ∈ ks) : LedIn es s p (i + 1) (ks ++ [e.2]) (ws ++ [e.2]) := by
  have hm : e ∈ es := List.mem_of_getElem? he
  refine ⟨nd_snoc h.nd h2, List.mem_append_left _ h.hs, fun k hk => ?_, fun k hk => ?_, by have := h.wk; rw [List.length_append, List.length_append, List.length_singleton]; omega, fun a b hab ha hw hp => ?_, List.mem_append_left _ h.hp, fun j b hj hx => ?_⟩
  · rcases List.mem_append.mp hk with hk | hk
    · exact h.rch k hk
    · rw [List.mem_singleton.mp hk]
      exact .step (h.rch p h.hp) (by rw [← h1]; exact hm)
  · rcases List.mem_append.mp hk with hk | hk
    · exact List.mem_append_left _ (h.sub k hk)
    · exact List.mem_append_right _ hk
  · have hw1 : ¬ a ∈ ws := fun q => hw (List.mem_append_left _ q)
    have hw2 : ¬ a = e.2 := fun q => hw (List.mem_append_right _ (List.mem_singleton.mpr q))
    rcases List.mem_append.mp ha with ha | ha
    · exact List.mem_append_left _ (h.cl a b hab ha hw1 hp)
    · exact absurd (List.mem_singleton.mp ha) hw2
  · by_cases q : j = i
    · subst q
      rw [he] at hx
      cases hx
      exact List.mem_append_right _ (List.mem_singleton.mpr rfl)
    · exact List.mem_append_left _ (h.here j b (by omega) hx)
theorem led_turn {es : List (Int × Int)} {s p : Int} {ks ws : List Int} (h : LedIn es s p es.length ks ws) : Led es s ks ws :=
  ⟨h.nd, h.hs, h.rch, h.sub, h.wk, fun a b he h1 h2 => by
    by_cases q : a = p
    · subst q
      obtain ⟨j, hj⟩ := List.mem_iff_getElem?.mp he
      exact h.here j b (List.getElem?_eq_some_iff.mp hj).1 hj
    · exact h.cl a b he h1 h2 q⟩
theorem led_end {es : List (Int × Int)} {s : Int} {ks : List Int} (h : Led es s ks []) : ks.Nodup ∧ ∀ v, v ∈ ks ↔ Rch es s v :=
  ⟨h.nd, fun v => ⟨h.rch v, fun r => r.closed (P := fun v => v ∈ ks) h.hs fun a b he ha => h.cl a b he ha (by simp)⟩⟩
theorem led_le {es : List (Int × Int)} {s : Int} {ks : List Int} {m : Int} (hn : ks.Nodup) (hr : ∀ k ∈ ks, Rch es s k) (hs : 0 ≤ s ∧ s < m) (hm : m ≤ 12) (he : InE m es) : ks.length ≤ 12 :=
  nodup_le hn fun k hk => by
    have := (hr k hk).inE hs he
    omega
theorem net_led {m : Int} {rs : List Road} (h : Net m rs) {r : Int} (h0 : 0 ≤ r) (h1 : r < m) : ∃ s n, [r] = [s] ∧ 0 ≤ s ∧ s < n ∧ n ≤ 12 ∧ InE n (ends rs) := ⟨r, m, rfl, h0, h1, h.hi, Net.inE h.ok⟩
def IsReached (m : Int) (rs : List Road) (r : Int) (ys : List Int) : Prop := Up ys ∧ ∀ v, v ∈ ys ↔ Rch (ends rs) r v
def IsCut (m : Int) (rs : List Road) (r : Int) (ys : List Int) : Prop := Up ys ∧ ∀ v, v ∈ ys ↔ (0 ≤ v ∧ v < m ∧ ¬ Rch (ends rs) r v)
end RR
namespace RR
open PySem L2 Evl PyProof.Rows
/-! ### the mathematics of the cheapest tree -/
theorem comesIn_iff {r : Road} {g : List Int} : comesIn r g = true ↔ r.2.1 ∈ g ∧ ¬ r.1 ∈ g := by
  unfold comesIn
  simp
theorem sum_add {α : Type} (f g : α → Int) : ∀ xs : List α, (xs.map fun x => f x + g x).sum = (xs.map f).sum + (xs.map g).sum
  | [] => rfl
  | x :: xs => by
    simp only [List.map_cons, List.sum_cons]
    rw [sum_add f g xs]
    omega
theorem sum_le {α : Type} {f g : α → Int} : ∀ {xs : List α}, (∀ x ∈ xs, f x ≤ g x) → (xs.map f).sum ≤ (xs.map g).sum
  | [], _ => Int.le_refl _
  | x :: xs, h => by
    simp only [List.map_cons, List.sum_cons]
    have h1 := h x List.mem_cons_self
    have h2 := sum_le (xs := xs) fun y hy => h y (List.mem_cons_of_mem _ hy)
    omega
theorem sum_congr {α : Type} {f g : α → Int} : ∀ {xs : List α}, (∀ x ∈ xs, f x = g x) → (xs.map f).sum = (xs.map g).sum
  | [], _ => rfl
  | x :: xs, h => by
    simp only [List.map_cons, List.sum_cons]
    rw [h x List.mem_cons_self, sum_congr (xs := xs) fun y hy => h y (List.mem_cons_of_mem _ hy)]
/-- where all of one sum is at most the other and the sums are alike, each is alike -/
theorem sum_tight {α : Type} {f g : α → Int} : ∀ {xs : List α}, (∀ x ∈ xs, f x ≤ g x) → (xs.map g).sum ≤ (xs.map f).sum → ∀ x ∈ xs, f x = g x
  | [], _, _, x, hx => by cases hx
  | y :: xs, h, h2, x, hx => by
    simp only [List.map_cons, List.sum_cons] at h2
    have h3 := h y List.mem_cons_self
    have h4 := sum_le (xs := xs) fun y hy => h y (List.mem_cons_of_mem _ hy)
    rcases List.mem_cons.mp hx with q | q
    · subst q
      omega
    · exact sum_tight (xs := xs) (fun y hy => h y (List.mem_cons_of_mem _ hy)) (by omega) x q
theorem sum_zero {α : Type} : ∀ xs : List α, (xs.map fun _ => (0 : Int)).sum = 0
  | [] => rfl
  | x :: xs => by
    simp only [List.map_cons, List.sum_cons]
    rw [sum_zero xs]
    rfl
/-- how many of some roads come into a set -/
def cntR (A : List Road) (g : List Int) : Nat := (A.filter fun r => comesIn r g).length
theorem cntR_cons (r : Road) (A : List Road) (g : List Int) : cntR (r :: A) g = (if comesIn r g then 1 else 0) + cntR A g := by
  unfold cntR
  rw [List.filter_cons]
  split
  · rw [List.length_cons]
    omega
  · omega
theorem cntR_snoc (r : Road) (A : List Road) (g : List Int) : cntR (A ++ [r]) g = cntR A g + (if comesIn r g then 1 else 0) := by
  unfold cntR
  rw [List.filter_append, List.length_append, List.filter_cons]
  split <;> simp
def cost (A : List Road) : Int := (A.map fun r => r.2.2).sum
def sums (ps : List Price) : Int := (ps.map fun p => p.2).sum
theorem exch (ps : List Price) : ∀ A : List Road, (A.map fun r => borne r ps).sum = (ps.map fun p => p.2 * (cntR A p.1 : Int)).sum
  | [] => by
    rw [List.map_nil, List.sum_nil]
    have : (ps.map fun p => p.2 * (cntR [] p.1 : Int)).sum = (ps.map fun _ => (0 : Int)).sum := sum_congr fun p _ => by
      show p.2 * ((0 : Nat) : Int) = 0
      simp
    rw [this, sum_zero]
  | r :: A => by
    rw [List.map_cons, List.sum_cons, exch ps A]
    unfold borne
    rw [← sum_add]
    refine sum_congr fun p _ => ?_
    rw [cntR_cons]
    split
    · rw [Int.natCast_add, Int.mul_add]
      simp
    · simp
/-- roads lead from the root to all places -/
def Spans (m root : Int) (A : List Road) : Prop := ∀ v, 0 ≤ v → v < m → Rch (ends A) root v
structure Tr (m root : Int) (A : List Road) : Prop where
  sp : Spans m root A
  nd : (A.map fun r => r.2.1).Nodup
  nr : ¬ root ∈ A.map fun r => r.2.1
def Least (m root : Int) (rs : List Road) (c : Int) : Prop := (∃ A, (∀ r ∈ A, r ∈ rs) ∧ Tr m root A ∧ cost A = c) ∧ ∀ A, (∀ r ∈ A, r ∈ rs) → Spans m root A → c ≤ cost A
theorem Least.uniq {m root : Int} {rs : List Road} {c d : Int} (h : Least m root rs c) (k : Least m root rs d) : c = d := by
  obtain ⟨⟨A, a1, a2, a3⟩, a4⟩ := h
  obtain ⟨⟨C, c1, c2, c3⟩, c4⟩ := k
  have h1 := a4 C c1 c2.sp
  have h2 := c4 A a1 a2.sp
  omega
theorem cntR_pos {m root : Int} {A : List Road} {g : List Int} (h : Spans m root A) (hg : IsGroup m root g) : 1 ≤ cntR A g := by
  cases hz : A.filter (fun r => comesIn r g) with
  | cons x xs =>
    unfold cntR
    rw [hz, List.length_cons]
    omega
  | nil =>
    have hno : ∀ r ∈ A, comesIn r g = false := fun r hr => by
      cases e : comesIn r g with
      | false => rfl
      | true =>
        have : r ∈ A.filter (fun r => comesIn r g) := List.mem_filter.mpr ⟨hr, e⟩
        rw [hz] at this
        cases this
    obtain ⟨v, hv⟩ := List.exists_mem_of_ne_nil g hg.ne
    obtain ⟨h0, h1⟩ := hg.inm v hv
    refine absurd hv ((h v h0 h1).closed (P := fun u => ¬ u ∈ g) hg.nr fun a b hab ha hb => ?_)
    obtain ⟨r, hr, e1, e2⟩ := mem_ends.mp hab
    have := hno r hr
    rw [comesIn_iff.mpr ⟨by rw [e2]; exact hb, by rw [e1]; exact ha⟩] at this
    cases this
/-- prices are at most what roads to all places cost -/
theorem weak {m root : Int} {rs A : List Road} {ps : List Price} (hb : ∀ r ∈ rs, borne r ps ≤ r.2.2) (hg : ∀ p ∈ ps, IsGroup m root p.1 ∧ 1 ≤ p.2) (hA : ∀ r ∈ A, r ∈ rs) (h : Spans m root A) : sums ps ≤ cost A := by
  have h1 : (A.map fun r => borne r ps).sum ≤ cost A := sum_le fun r hr => hb r (hA r hr)
  rw [exch] at h1
  refine Int.le_trans (sum_le fun p hp => ?_) h1
  have h2 := cntR_pos h (hg p hp).1
  have h3 := (hg p hp).2
  have h4 : p.2 * 1 ≤ p.2 * (cntR A p.1 : Int) := Int.mul_le_mul_of_nonneg_left (by omega) (by omega)
  omega
/-- where they are alike, each set is come into once -/
theorem slack {m root : Int} {rs A : List Road} {ps : List Price} (hb : ∀ r ∈ rs, borne r ps ≤ r.2.2) (hg : ∀ p ∈ ps, IsGroup m root p.1 ∧ 1 ≤ p.2) (hA : ∀ r ∈ A, r ∈ rs) (h : Spans m root A) (e : cost A = sums ps) : ∀ p ∈ ps, cntR A p.1 = 1 := by
  have h1 : (A.map fun r => borne r ps).sum ≤ cost A := sum_le fun r hr => hb r (hA r hr)
  rw [exch, e] at h1
  intro p hp
  have h2 := cntR_pos h (hg p hp).1
  have h3 := (hg p hp).2
  have h5 := sum_tight (f := fun p : Price => p.2) (g := fun p : Price => p.2 * (cntR A p.1 : Int)) (xs := ps) (fun q hq => by
    have h2 := cntR_pos h (hg q hq).1
    have h3 := (hg q hq).2
    have h4 : q.2 * 1 ≤ q.2 * (cntR A q.1 : Int) := Int.mul_le_mul_of_nonneg_left (by omega) (by omega)
    omega) h1 p hp
  have h6 : p.2 * ((cntR A p.1 : Int) - 1) = 0 := by rw [Int.mul_sub, ← h5]; omega
  rcases Int.mul_eq_zero.mp h6 with q | q <;> omega

/-! ### the greedy tree -/
structure Core (m root : Int) (ps : List Price) (ts : List Road) : Prop where
  sp : Spans m root ts
  ok : ∀ r ∈ ts, OkR m r
  grp : ∀ p ∈ ps, IsGroup m root p.1 ∧ 1 ≤ p.2
  core : ∀ p ∈ ps, ∃ k, k ≤ ts.length ∧ (∀ r ∈ ts.take k, comesIn r p.1 = false) ∧ ∀ u ∈ p.1, ∀ v ∈ p.1, Rch (ends (ts.take k)) u v
  tight : ∀ r ∈ ts, borne r ps = r.2.2
/-- the places met, in their order, and the roads taken -/
structure Gr (m root : Int) (ps : List Price) (ts : List Road) (A : List Road) : Prop where
  nd : (root :: A.map fun r => r.2.1).Nodup
  sub : ∀ r ∈ A, r ∈ ts
  st : ∀ k r, A[k]? = some r → r.1 ∈ root :: (A.take k).map fun r => r.2.1
  ct0 : ∀ p ∈ ps, (∀ v ∈ root :: A.map fun r => r.2.1, ¬ v ∈ p.1) → cntR A p.1 = 0
  ct1 : ∀ p ∈ ps, ∀ v ∈ root :: A.map fun r => r.2.1, v ∈ p.1 → cntR A p.1 = 1
theorem gr0 {m root : Int} {ps : List Price} {ts : List Road} (h : Core m root ps ts) : Gr m root ps ts [] :=
  ⟨(by simp), (fun r hr => by cases hr), (fun k r hr => by cases hr), fun p hp _ => rfl, fun p hp v hv hg => by
    rw [List.mem_singleton.mp hv] at hg
    exact absurd hg (h.grp p hp).1.nr⟩
/-- the first road that leads on -/
structure Next (root : Int) (ts A : List Road) (i : Nat) (r : Road) : Prop where
  here : ts[i]? = some r
  on : r.1 ∈ root :: A.map fun r => r.2.1
  off : ¬ r.2.1 ∈ root :: A.map fun r => r.2.1
  first : ∀ j q, j < i → ts[j]? = some q → q.1 ∈ (root :: A.map fun r => r.2.1) → q.2.1 ∈ root :: A.map fun r => r.2.1
theorem ends_snoc (root : Int) (A : List Road) (r : Road) : (root :: (A ++ [r]).map fun r => r.2.1) = (root :: A.map fun r => r.2.1) ++ [r.2.1] := by
  rw [List.map_append]
  rfl
theorem gr_next {m root : Int} {ps : List Price} {ts A : List Road} {i : Nat} {r : Road} (h : Core m root ps ts) (g : Gr m root ps ts A) (n : Next root ts A i r) : Gr m root ps ts (A ++ [r]) := by
  have key : ∀ p ∈ ps, comesIn r p.1 = true → ∀ v ∈ root :: A.map fun r => r.2.1, ¬ v ∈ p.1 := fun p hp hc v hv hg => by
    obtain ⟨k, _, k1, k2⟩ := h.core p hp
    have hr := comesIn_iff.mp hc
    refine n.off ((k2 v hg r.2.1 hr.1).closed (P := fun u => u ∈ root :: A.map fun r => r.2.1) hv fun a b hab ha => ?_)
    obtain ⟨q, hq, rfl, rfl⟩ := mem_ends.mp hab
    obtain ⟨j, hj⟩ := List.mem_iff_getElem?.mp hq
    have hjk : j < k := by
      have := (List.getElem?_eq_some_iff.mp hj).1
      rw [List.length_take] at this
      omega
    rw [List.getElem?_take_of_lt hjk] at hj
    by_cases hji : j < i
    · exact n.first j q hji hj ha
    · have hm : r ∈ ts.take k := by
        refine List.mem_iff_getElem?.mpr ⟨i, ?_⟩
        rw [List.getElem?_take_of_lt (by omega)]
        exact n.here
      rw [k1 r hm] at hc
      cases hc
  refine ⟨?_, fun q hq => ?_, fun k q hq => ?_, fun p hp hno => ?_, fun p hp v hv hg => ?_⟩
  · rw [ends_snoc]
    exact nd_snoc g.nd n.off
  · rcases List.mem_append.mp hq with z | z
    · exact g.sub q z
    · rw [List.mem_singleton.mp z]
      exact List.mem_of_getElem? n.here
  · by_cases hk : k < A.length
    · rw [List.getElem?_append_left hk] at hq
      rw [List.take_append_of_le_length (by omega)]
      exact g.st k q hq
    · have hk2 : k = A.length := by
        have := (List.getElem?_eq_some_iff.mp hq).1
        rw [List.length_append, List.length_singleton] at this
        omega
      subst hk2
      rw [List.getElem?_concat_length] at hq
      cases hq
      rw [List.take_append_of_le_length (Nat.le_refl _), List.take_length]
      exact n.on
  · rw [ends_snoc] at hno
    have h1 : ¬ r.2.1 ∈ p.1 := hno r.2.1 (List.mem_append_right _ (List.mem_singleton.mpr rfl))
    have hc : comesIn r p.1 = false := by
      cases e : comesIn r p.1 with
      | false => rfl
      | true => exact absurd (comesIn_iff.mp e).1 h1
    rw [cntR_snoc, hc, g.ct0 p hp fun v hv => hno v (List.mem_append_left _ hv)]
    rfl
  · rw [cntR_snoc]
    rw [ends_snoc] at hv
    cases hc : comesIn r p.1 with
    | true =>
      rw [g.ct0 p hp (key p hp hc)]
      rfl
    | false =>
      rcases List.mem_append.mp hv with z | z
      · rw [g.ct1 p hp v z hg]
        rfl
      · have z := List.mem_singleton.mp z
        subst z
        have h1 : r.1 ∈ p.1 := Classical.byContradiction fun q => by
          rw [comesIn_iff.mpr ⟨hg, q⟩] at hc
          cases hc
        rw [g.ct1 p hp r.1 n.on h1]
        rfl
/-- the first one of those that meet a test -/
theorem first_one {α : Type} {P : α → Prop} : ∀ {xs : List α}, (∃ x ∈ xs, P x) → ∃ (i : Nat) (x : α), xs[i]? = some x ∧ P x ∧ ∀ (j : Nat) (y : α), j < i → xs[j]? = some y → ¬ P y
  | [], h => by
    obtain ⟨x, hx, _⟩ := h
    cases hx
  | x :: xs, h => by
    by_cases hx : P x
    · exact ⟨0, x, rfl, hx, fun j y hj => absurd hj (Nat.not_lt_zero _)⟩
    · obtain ⟨y, hy, hp⟩ := h
      have hy' : y ∈ xs := by
        rcases List.mem_cons.mp hy with q | q
        · subst q
          exact absurd hp hx
        · exact q
      obtain ⟨i, z, h1, h2, h3⟩ := first_one ⟨y, hy', hp⟩
      refine ⟨i + 1, z, h1, h2, fun j y hj hy => ?_⟩
      cases j with
      | zero =>
        cases hy
        exact hx
      | succ j => exact h3 j y (by omega) hy
theorem next_ex {m root : Int} {ps : List Price} {ts A : List Road} (h : Core m root ps ts) {v : Int} (h0 : 0 ≤ v) (h1 : v < m) (hv : ¬ v ∈ root :: A.map fun r => r.2.1) : ∃ i r, Next root ts A i r := by
  obtain ⟨i, r, k1, k2, k3⟩ := first_one (P := fun r : Road => r.1 ∈ (root :: A.map fun r => r.2.1) ∧ ¬ r.2.1 ∈ root :: A.map fun r => r.2.1) (xs := ts) (Classical.byContradiction fun hn => by
    refine hv ((h.sp v h0 h1).closed (P := fun u => u ∈ root :: A.map fun r => r.2.1) List.mem_cons_self fun a b hab ha => ?_)
    obtain ⟨r, hr, rfl, rfl⟩ := mem_ends.mp hab
    exact Classical.byContradiction fun q => hn ⟨r, hr, ha, q⟩)
  exact ⟨i, r, k1, k2.1, k2.2, fun j q hj hq ha => Classical.byContradiction fun z => k3 j q hj hq ⟨ha, z⟩⟩
theorem gr_in {m root : Int} {ps : List Price} {ts A : List Road} (h : Core m root ps ts) (g : Gr m root ps ts A) (hr0 : 0 ≤ root) (hr1 : root < m) : ∀ v ∈ root :: A.map fun r => r.2.1, 0 ≤ v ∧ v < m := fun v hv => by
  rcases List.mem_cons.mp hv with q | q
  · subst q
    exact ⟨hr0, hr1⟩
  · obtain ⟨r, hr, rfl⟩ := List.mem_map.mp q
    obtain ⟨_, _, k1, k2, _⟩ := h.ok r (g.sub r hr)
    exact ⟨k1, k2⟩
/-- so many different places: all -/
theorem nodup_all : ∀ {n : Nat} {ks : List Int}, ks.Nodup → (∀ k ∈ ks, 0 ≤ k ∧ k < (n : Int)) → ks.length = n → ∀ v : Int, 0 ≤ v → v < (n : Int) → v ∈ ks := fun {n ks} hn hk hl v h0 h1 => Classical.byContradiction fun hv => by
  have := nodup_le (n := n) (nd_snoc hn hv) fun k hk' => by
    rcases List.mem_append.mp hk' with q | q
    · exact hk k q
    · rw [List.mem_singleton.mp q]
      exact ⟨h0, h1⟩
  rw [List.length_append, List.length_singleton] at this
  omega
theorem gr_len {m root : Int} {ps : List Price} {ts A : List Road} (h : Core m root ps ts) (g : Gr m root ps ts A) (hr0 : 0 ≤ root) (hr1 : root < m) : A.length + 1 ≤ m.toNat := by
  have := nodup_le (n := m.toNat) g.nd fun k hk => by
    have := gr_in h g hr0 hr1 k hk
    omega
  rw [List.length_cons, List.length_map] at this
  exact this
theorem gr_rch {m root : Int} {ps : List Price} {ts A : List Road} (g : Gr m root ps ts A) : ∀ n, ∀ v ∈ root :: (A.take n).map fun r => r.2.1, Rch (ends A) root v
  | 0, v, hv => by
    rw [List.mem_singleton.mp hv]
    exact .refl
  | n + 1, v, hv => by
    cases hn : A[n]? with
    | none =>
      refine gr_rch g n v ?_
      have h1 := List.getElem?_eq_none_iff.mp hn
      rw [List.take_of_length_le (by omega)] at hv
      rw [List.take_of_length_le h1]
      exact hv
    | some r =>
      rw [take_next hn, List.map_append] at hv
      rcases List.mem_cons.mp hv with q | q
      · subst q
        exact .refl
      · rcases List.mem_append.mp q with q | q
        · exact gr_rch g n v (List.mem_cons_of_mem _ q)
        · have q := List.mem_singleton.mp q
          subst q
          exact .step (gr_rch g n _ (g.st n r hn)) (mem_ends.mpr ⟨r, List.mem_of_getElem? hn, rfl, rfl⟩)
theorem gr_full {m root : Int} {ps : List Price} {ts A : List Road} (h : Core m root ps ts) (g : Gr m root ps ts A) (hr0 : 0 ≤ root) (hr1 : root < m) (hl : m.toNat ≤ A.length + 1) : (∀ v, 0 ≤ v → v < m → v ∈ root :: A.map fun r => r.2.1) ∧ Tr m root A ∧ cost A = sums ps := by
  have hall : ∀ v, 0 ≤ v → v < m → v ∈ root :: A.map fun r => r.2.1 := fun v h0 h1 => nodup_all (n := m.toNat) g.nd (fun k hk => by
    have := gr_in h g hr0 hr1 k hk
    omega) (by
      have := gr_len h g hr0 hr1
      rw [List.length_cons, List.length_map]
      omega) v h0 (by omega)
  have hsp : Spans m root A := fun v h0 h1 => gr_rch g A.length v (by rw [List.take_length]; exact hall v h0 h1)
  obtain ⟨n1, n2⟩ := List.nodup_cons.mp g.nd
  refine ⟨hall, ⟨hsp, n2, n1⟩, ?_⟩
  have e1 : cost A = (A.map fun r => borne r ps).sum := sum_congr fun r hr => (h.tight r (g.sub r hr)).symm
  rw [e1, exch]
  refine sum_congr fun p hp => ?_
  obtain ⟨v, hv⟩ := List.exists_mem_of_ne_nil p.1 (h.grp p hp).1.ne
  obtain ⟨h0, h1⟩ := (h.grp p hp).1.inm v hv
  rw [g.ct1 p hp v (hall v h0 h1) hv]
  simp
theorem sub_len {α : Type} [DecidableEq α] : ∀ {xs ys : List α}, xs.Nodup → (∀ x ∈ xs, x ∈ ys) → xs.length ≤ ys.length
  | [], _, _, _ => Nat.zero_le _
  | x :: xs, ys, hn, h => by
    obtain ⟨n1, n2⟩ := List.nodup_cons.mp hn
    have hx := h x List.mem_cons_self
    have ih := sub_len (xs := xs) (ys := ys.erase x) n2 fun y hy => (List.mem_erase_of_ne (fun e : y = x => n1 (e ▸ hy))).mpr (h y (List.mem_cons_of_mem _ hy))
    rw [List.length_erase_of_mem hx] at ih
    have : 0 < ys.length := List.length_pos_of_mem hx
    rw [List.length_cons]
    omega
theorem gr_ex {m root : Int} {ps : List Price} {ts : List Road} (h : Core m root ps ts) (hr0 : 0 ≤ root) (hr1 : root < m) : ∀ n, n + 1 ≤ m.toNat → ∃ A, Gr m root ps ts A ∧ A.length = n
  | 0, _ => ⟨[], gr0 h, rfl⟩
  | n + 1, hn => by
    obtain ⟨A, g, hl⟩ := gr_ex h hr0 hr1 n (by omega)
    have : ∃ v, 0 ≤ v ∧ v < m ∧ ¬ v ∈ root :: A.map fun r => r.2.1 := Classical.byContradiction fun hno => by
      have h2 : (rg m).length ≤ (root :: A.map fun r => r.2.1).length := sub_len (up_nodup (up_rg m)) fun v hv => by
        obtain ⟨a, b⟩ := mem_rg.mp hv
        exact Classical.byContradiction fun q => hno ⟨v, a, b, q⟩
      rw [List.length_cons, List.length_map, rg_len] at h2
      omega
    obtain ⟨v, h0, h1, hv⟩ := this
    obtain ⟨i, r, hx⟩ := next_ex h h0 h1 hv
    exact ⟨A ++ [r], gr_next h g hx, by rw [List.length_append, List.length_singleton, hl]⟩
end RR
namespace RR
open PySem L2 Evl PyProof.Rows
/-! ### the working: prices, and the roads of which nothing is left -/
def pick (rs : List Road) (ns : List Int) : List Road := ns.map fun n => rs.getD n.toNat (0, 0, 0)
theorem pick_app (rs : List Road) (a b : List Int) : pick rs (a ++ b) = pick rs a ++ pick rs b := List.map_append
theorem pick_mem {rs : List Road} {ns : List Int} (h : ∀ n ∈ ns, ∃ r, rs[n.toNat]? = some r) {r : Road} : r ∈ pick rs ns ↔ ∃ n ∈ ns, rs[n.toNat]? = some r := by
  unfold pick
  rw [List.mem_map]
  constructor
  · rintro ⟨n, hn, rfl⟩
    obtain ⟨r, hr⟩ := h n hn
    exact ⟨n, hn, by rw [List.getD_eq_getElem?_getD, hr]; rfl⟩
  · rintro ⟨n, hn, hr⟩
    exact ⟨n, hn, by rw [List.getD_eq_getElem?_getD, hr]; rfl⟩
theorem Rch.back {es : List (Int × Int)} {g : List Int} (hc : ∀ a b, (a, b) ∈ es → b ∈ g → a ∈ g) {u v : Int} (h : Rch es u v) : v ∈ g → u ∈ g := by
  induction h with
  | refl => exact id
  | step _ e ih => exact fun hw => ih (hc _ _ e hw)
structure Wk (m root : Int) (rs : List Road) (ps : List Price) (sp : List Int) : Prop where
  nd : sp.Nodup
  tight : ∀ n, n ∈ sp ↔ 0 ≤ n ∧ ∃ r, rs[n.toNat]? = some r ∧ borne r ps = r.2.2
  left : ∀ r ∈ rs, borne r ps ≤ r.2.2
  prs : PairsTo m root ps ps.length
  core : ∀ p ∈ ps, ∃ k, k ≤ (pick rs sp).length ∧ (∀ r ∈ (pick rs sp).take k, comesIn r p.1 = false) ∧ ∀ u ∈ p.1, ∀ v ∈ p.1, Rch (ends ((pick rs sp).take k)) u v
  ent : ∀ p ∈ ps, ∃ r ∈ pick rs sp, comesIn r p.1 = true
/-- what none of some roads comes into, and no lesser one in it -/
structure Small (m root : Int) (ts : List Road) (g : List Int) : Prop where
  grp : IsGroup m root g
  cl : ∀ a b, (a, b) ∈ ends ts → b ∈ g → a ∈ g
  con : ∀ u ∈ g, ∀ v ∈ g, Rch (ends ts) u v
section
variable {m root : Int} {rs : List Road} {ps : List Price} {sp : List Int} {g : List Int}
theorem Wk.ok (h : Wk m root rs ps sp) : ∀ n ∈ sp, ∃ r, rs[n.toNat]? = some r := fun n hn => by
  obtain ⟨_, r, hr, _⟩ := (h.tight n).mp hn
  exact ⟨r, hr⟩
theorem Wk.mem (h : Wk m root rs ps sp) {r : Road} : r ∈ pick rs sp ↔ r ∈ rs ∧ borne r ps = r.2.2 := by
  rw [pick_mem h.ok]
  constructor
  · rintro ⟨n, hn, hr⟩
    obtain ⟨_, q, hq, e⟩ := (h.tight n).mp hn
    rw [hr] at hq
    cases hq
    exact ⟨List.mem_of_getElem? hr, e⟩
  · rintro ⟨hr, e⟩
    obtain ⟨n, hn⟩ := List.mem_iff_getElem?.mp hr
    exact ⟨(n : Int), (h.tight n).mpr ⟨Int.natCast_nonneg n, r, by rw [Int.toNat_natCast]; exact hn, e⟩, by rw [Int.toNat_natCast]; exact hn⟩
theorem Wk.len (h : Wk m root rs ps sp) : sp.length ≤ rs.length := nodup_le h.nd fun n hn => by
  obtain ⟨h0, r, hr, _⟩ := (h.tight n).mp hn
  have := (List.getElem?_eq_some_iff.mp hr).1
  omega
theorem Wk.grp (h : Wk m root rs ps sp) : ∀ p ∈ ps, IsGroup m root p.1 ∧ 1 ≤ p.2 := fun p hp => by
  obtain ⟨j, hj⟩ := List.mem_iff_getElem?.mp hp
  exact h.prs.one j p (List.getElem?_eq_some_iff.mp hj).1 hj
theorem Wk.prices (h : Wk m root rs ps sp) : IsPrices m root rs ps := ⟨h.prs, h.left⟩
theorem Wk.toCore (h : Wk m root rs ps sp) (hok : ∀ r ∈ rs, OkR m r) (hs : Spans m root (pick rs sp)) : Core m root ps (pick rs sp) :=
  ⟨hs, fun r hr => hok r (h.mem.mp hr).1, h.grp, h.core, fun r hr => (h.mem.mp hr).2⟩
theorem wk0 (hok : ∀ r ∈ rs, OkR m r) (hn : sp.Nodup) (ht : ∀ n, n ∈ sp ↔ 0 ≤ n ∧ ∃ r, rs[n.toNat]? = some r ∧ r.2.2 = 0) : Wk m root rs [] sp :=
  ⟨hn, fun n => (ht n).trans ⟨fun ⟨a, r, b, c⟩ => ⟨a, r, b, by rw [borne_nil, c]⟩, fun ⟨a, r, b, c⟩ => ⟨a, r, b, by rw [← c, borne_nil]⟩⟩, fun r hr => by
    obtain ⟨_, _, _, _, _, h, _⟩ := hok r hr
    rw [borne_nil]
    exact h, pairs0 m root [], (fun p hp => by cases hp), (fun p hp => by cases hp)⟩
theorem Small.no {ts : List Road} (h : Small m root ts g) : ∀ r ∈ ts, comesIn r g = false := fun r hr => by
  cases e : comesIn r g with
  | false => rfl
  | true =>
    obtain ⟨e1, e2⟩ := comesIn_iff.mp e
    exact absurd (h.cl r.1 r.2.1 (mem_ends.mpr ⟨r, hr, rfl, rfl⟩) e1) e2
/-- the turn: what is left over of the roads that come in is at least the price, and of one it is the price -/
structure Least1 (rs : List Road) (ps : List Price) (g : List Int) (c : Int) : Prop where
  le : ∀ r ∈ rs, comesIn r g = true → c ≤ r.2.2 - borne r ps
  eq : ∃ r ∈ rs, comesIn r g = true ∧ c = r.2.2 - borne r ps
theorem wk_pos (h : Wk m root rs ps sp) (s : Small m root (pick rs sp) g) {c : Int} (l : Least1 rs ps g c) : 1 ≤ c := by
  obtain ⟨r, hr, hc, e⟩ := l.eq
  have h1 := h.left r hr
  by_cases h2 : borne r ps = r.2.2
  · have := s.no r (h.mem.mpr ⟨hr, h2⟩)
    rw [hc] at this
    cases this
  · omega
theorem wk_next {new : List Int} {c : Int} (h : Wk m root rs ps sp) (s : Small m root (pick rs sp) g) (l : Least1 rs ps g c) (hn : new.Nodup) (ht : ∀ n, n ∈ new ↔ 0 ≤ n ∧ ∃ r, rs[n.toNat]? = some r ∧ comesIn r g = true ∧ r.2.2 - borne r ps = c) : Wk m root rs (ps ++ [(g, c)]) (sp ++ new) ∧ new ≠ [] := by
  have hc1 := wk_pos h s l
  have hb : ∀ r, borne r (ps ++ [(g, c)]) = borne r ps + if comesIn r g then c else 0 := fun r => borne_snoc r ps (g, c)
  have hsp : ∀ n r, n ∈ sp → rs[n.toNat]? = some r → comesIn r g = false ∧ borne r ps = r.2.2 := fun n r hn hr => by
    obtain ⟨_, q, hq, e⟩ := (h.tight n).mp hn
    rw [hr] at hq
    cases hq
    exact ⟨s.no r (h.mem.mpr ⟨List.mem_of_getElem? hr, e⟩), e⟩
  have hnew : ∃ r ∈ pick rs new, comesIn r g = true := by
    obtain ⟨r, hr, k1, k2⟩ := l.eq
    obtain ⟨n, hn⟩ := List.mem_iff_getElem?.mp hr
    refine ⟨r, (pick_mem fun k hk => ?_).mpr ⟨(n : Int), (ht n).mpr ⟨Int.natCast_nonneg n, r, by rw [Int.toNat_natCast]; exact hn, k1, k2.symm⟩, by rw [Int.toNat_natCast]; exact hn⟩, k1⟩
    obtain ⟨_, q, hq, _⟩ := (ht k).mp hk
    exact ⟨q, hq⟩
  refine ⟨⟨?_, fun n => ?_, fun r hr => ?_, ⟨fun j p hj hp => ?_, fun j k p q hk hj hp hq => ?_⟩, fun p hp => ?_, fun p hp => ?_⟩, ?_⟩
  · refine List.nodup_append.mpr ⟨h.nd, hn, fun a ha b hb e => ?_⟩
    subst e
    obtain ⟨_, r, hr, k1, k2⟩ := (ht a).mp hb
    have := (hsp a r ha hr).1
    rw [k1] at this
    cases this
  · rw [List.mem_append]
    constructor
    · rintro (hn | hn)
      · obtain ⟨h0, r, hr, e⟩ := (h.tight n).mp hn
        have := (hsp n r hn hr).1
        exact ⟨h0, r, hr, by rw [hb, this, e]; simp⟩
      · obtain ⟨h0, r, hr, k1, k2⟩ := (ht n).mp hn
        exact ⟨h0, r, hr, by rw [hb, if_pos k1]; omega⟩
    · rintro ⟨h0, r, hr, e⟩
      rw [hb] at e
      cases hc : comesIn r g with
      | true =>
        rw [hc, if_pos rfl] at e
        exact .inr ((ht n).mpr ⟨h0, r, hr, hc, by omega⟩)
      | false =>
        rw [hc, if_neg Bool.false_ne_true] at e
        exact .inl ((h.tight n).mpr ⟨h0, r, hr, by omega⟩)
  · rw [hb]
    have h1 := h.left r hr
    cases hc : comesIn r g with
    | true =>
      have := l.le r hr hc
      rw [if_pos rfl]
      omega
    | false =>
      rw [if_neg Bool.false_ne_true]
      omega
  · by_cases hj2 : j < ps.length
    · rw [List.getElem?_append_left hj2] at hp
      exact h.prs.one j p hj2 hp
    · have : j = ps.length := by
        rw [List.length_append, List.length_singleton] at hj
        omega
      subst this
      rw [List.getElem?_concat_length] at hp
      cases hp
      exact ⟨s.grp, hc1⟩
  · by_cases hj2 : j < ps.length
    · rw [List.getElem?_append_left hj2] at hp
      rw [List.getElem?_append_left (by omega)] at hq
      exact h.prs.two j k p q hk hj2 hp hq
    · have : j = ps.length := by
        rw [List.length_append, List.length_singleton] at hj
        omega
      subst this
      rw [List.getElem?_concat_length] at hp
      cases hp
      rw [List.getElem?_append_left hk] at hq
      have hqm := List.mem_of_getElem? hq
      have hqg := (h.grp q hqm).1
      show AgreeP q.1 g
      by_cases hz : bothN q.1 g = 0
      · exact .inl hz
      obtain ⟨x, hx⟩ : ∃ x, x ∈ q.1.filter fun v => decide (v ∈ g) := by
        cases e : q.1.filter fun v => decide (v ∈ g) with
        | nil =>
          refine absurd ?_ hz
          unfold bothN
          rw [e]
          rfl
        | cons x xs => exact ⟨x, List.mem_cons_self⟩
      obtain ⟨x1, x2⟩ := List.mem_filter.mp hx
      have x2 := of_decide_eq_true x2
      obtain ⟨k', _, _, k2⟩ := h.core q hqm
      have hsub : ∀ u ∈ q.1, u ∈ g := fun u hu => Rch.back s.cl ((k2 u hu x x1).mono fun e he => by
        obtain ⟨a, b⟩ := e
        obtain ⟨r, hr, e1, e2⟩ := mem_ends.mp he
        exact mem_ends.mpr ⟨r, List.mem_of_mem_take hr, e1, e2⟩) x2
      have hall : bothN q.1 g = q.1.length := by
        unfold bothN
        rw [List.filter_eq_self.mpr fun v hv => decide_eq_true (hsub v hv)]
      refine .inr ⟨.inl hall, fun hl => ?_⟩
      have := both_same hqg.up s.grp.up hall hl
      obtain ⟨r, hr, hc⟩ := h.ent q hqm
      rw [this, s.no r hr] at hc
      cases hc
  · rcases List.mem_append.mp hp with z | z
    · obtain ⟨k, k0, k1, k2⟩ := h.core p z
      refine ⟨k, ?_, ?_⟩
      · rw [pick_app, List.length_append]
        omega
      · rw [pick_app, List.take_append_of_le_length k0]
        exact ⟨k1, k2⟩
    · rw [List.mem_singleton.mp z]
      refine ⟨(pick rs sp).length, ?_, ?_⟩
      · rw [pick_app, List.length_append]
        omega
      · rw [pick_app, List.take_append_of_le_length (Nat.le_refl _), List.take_length]
        exact ⟨s.no, s.con⟩
  · rcases List.mem_append.mp hp with z | z
    · obtain ⟨r, hr, hc⟩ := h.ent p z
      exact ⟨r, by rw [pick_app]; exact List.mem_append_left _ hr, hc⟩
    · rw [List.mem_singleton.mp z]
      obtain ⟨r, hr, hc⟩ := hnew
      exact ⟨r, by rw [pick_app]; exact List.mem_append_right _ hr, hc⟩
  · rintro rfl
    obtain ⟨r, hr, _⟩ := hnew
    cases hr
/-- the prices' sum is the least total -/
theorem wk_least (h : Wk m root rs ps sp) (hok : ∀ r ∈ rs, OkR m r) (hs : Spans m root (pick rs sp)) (hr0 : 0 ≤ root) (hr1 : root < m) : Least m root rs (sums ps) := by
  have hC := h.toCore hok hs
  obtain ⟨A, hg, hl⟩ := gr_ex hC hr0 hr1 (m.toNat - 1) (by omega)
  obtain ⟨_, h2, h3⟩ := gr_full hC hg hr0 hr1 (by omega)
  exact ⟨⟨A, fun r hr => (h.mem.mp (hg.sub r hr)).1, h2, h3⟩, fun A hA hsp => weak h.left h.grp hA hsp⟩
end

/-! ### what leads to a place -/
def IsBehind (rs : List Road) (p : Int) (ys : List Int) : Prop := Up ys ∧ ∀ v, v ∈ ys ↔ Rch (ends rs) v p
/-- a set behind a place, with no lesser one in it -/
def IsInmost (rs : List Road) (p : Int) (ys : List Int) : Prop := ∃ q, Rch (ends rs) q p ∧ IsBehind rs q ys ∧ ∀ v ∈ ys, Rch (ends rs) q v
theorem inmost_small {m root p : Int} {rs : List Road} {ys : List Int} (h : IsInmost rs p ys) (hok : ∀ r ∈ rs, OkR m r) (hp0 : 0 ≤ p) (hp1 : p < m) (hn : ¬ Rch (ends rs) root p) : Small m root rs ys := by
  obtain ⟨q, hq, ⟨hu, hm⟩, hc⟩ := h
  have hE := Net.inE hok
  have back : ∀ {u v : Int}, Rch (ends rs) u v → 0 ≤ v ∧ v < m → 0 ≤ u ∧ u < m := fun {u v} h hv => by
    induction h with
    | refl => exact hv
    | step _ e ih =>
      have := hE _ e
      exact ih ⟨this.1, this.2.1⟩
  have hqm := back hq ⟨hp0, hp1⟩
  refine ⟨⟨fun e => ?_, fun hr => hn (((hm root).mp hr).trans hq), fun v hv => back ((hm v).mp hv) hqm, hu⟩, fun a b hab hb => (hm a).mpr (Rch.head hab ((hm b).mp hb)), fun u hu' v hv => ((hm u).mp hu').trans (hc v hv)⟩
  have := (hm q).mpr .refl
  rw [e] at this
  cases this
end RR
namespace RR
open PySem L2 Evl PyProof.Rows
section
variable {α β γ : Type} {E : Enc α} {F : Enc β} {G : Enc γ} {te ta tb tc tl : TE} {tt : TT} {σ : L2.St} {B H B0 H0 B1 H1 : Hp} {S : α → Prop} {K : PySem.W.Frag} {D : Ends} {ar : TA}
/-! ### a thing or None -/
def eOp (E : Enc α) : Enc (Option α) := ⟨fun B v o => match o with | none => v = .non | some x => v ≠ .non ∧ E.R B v x, fun {H H' v o} e h => by
  cases o with
  | none => exact h
  | some x => exact ⟨h.1, E.up e h.2⟩⟩
theorem eOp_some {v : V} {x : α} (h : (eOp E).R B v (some x)) : E.R B v x := h.2
theorem es_noneOp (x0 : Ex B H) : EvE (eOp E) (tC .non) σ B H none := es_ev x0 ev_c rfl
theorem es_someT {T : List α → Prop} (h : EvS (eT E) te σ B H T) : EvS (eOp (eT E)) te σ B H (fun o => ∃ x, o = some x ∧ T x) := fun H1 e Q k =>
  h H1 e Q fun v x B2 H2 t hS hR => k v (some x) B2 H2 t ⟨x, rfl, hS⟩ ⟨(by obtain ⟨a, vs, h1, _⟩ := hR; rw [h1]; intro z; cases z), hR⟩
theorem es_notNOp {o : Option α} (x0 : Ex B H) (ha : EvE (eOp E) ta σ B H o) : EvE eB (tOp (fun x y H Q => y = V.non ∧ Q (.bl (!decide (x = .non))) H) ta (tC .non)) σ B H (!o.isNone) :=
  es_op x0 ha (es_non x0) fun v w B2 H2 _ hv hw => ⟨_, rfl, fun Q q => by
    cases hw
    refine ⟨rfl, ?_⟩
    cases o with
    | none =>
      have hv : v = .non := hv
      subst hv
      exact q
    | some x =>
      rw [decide_eq_false hv.1]
      exact q⟩
/-! ### a tuple of two lists of one's own -/
def SpecM2 {ι : Type} (A : ι → Hp → List V → Prop) (Pre : ι → Prop) (E : Enc α) (F : Enc β) (Post : ι → List α → List β → Prop) : Sp := fun vs H Q _ => ∃ (i : ι) (B : Hp), Ex B H ∧ A i B vs ∧ Pre i ∧
  ∀ t p r us ws xs ys B2 H2, Stp B H B2 H2 → H2 t = some (.tup [.ref p, .ref r]) → H p = none → B2 p = none → H2 p = some (.lst us) → H r = none → B2 r = none → H2 r = some (.lst ws) → p ≠ r → Post i xs ys → Paired (E.R B2) us xs → Paired (F.R B2) ws ys → Q (.ref t) H2
theorem em_call20 {ι : Type} {A : ι → Hp → List V → Prop} {Pre : ι → Prop} {Post : ι → List α → List β → Prop} {X : XK} (i : ι) (x0 : Ex B H) (h : EvAr ar σ B H (A i)) (p : Pre i) :
    EvM E (tOp (rIxT K) (tCall (SpecM2 A Pre E F Post) [] X ar) (tC (.int 0))) σ B H (fun xs => ∃ ys, Post i xs ys) := fun H1 e Q k =>
  h H1 e _ fun vs B2 H2 t hA => ⟨i, B2, t.bh, by rw [List.append_nil]; exact hA, p, fun a p r us ws xs ys B3 H3 t2 ha hp bp hlp hr br hlr ne hP h1 h2 =>
    ⟨a, _, 0, .ref p, rfl, rfl, SqT.of ha, atI_nat (j := 0) rfl, k p us xs B3 H3 (t.trans t2) (fresh_back t.eh hp) bp hlp ⟨ys, hP⟩ h1⟩⟩
theorem em_call21 {ι : Type} {A : ι → Hp → List V → Prop} {Pre : ι → Prop} {Post : ι → List α → List β → Prop} {X : XK} (i : ι) (x0 : Ex B H) (h : EvAr ar σ B H (A i)) (p : Pre i) :
    EvM F (tOp (rIxT K) (tCall (SpecM2 A Pre E F Post) [] X ar) (tC (.int 1))) σ B H (fun ys => ∃ xs, Post i xs ys) := fun H1 e Q k =>
  h H1 e _ fun vs B2 H2 t hA => ⟨i, B2, t.bh, by rw [List.append_nil]; exact hA, p, fun a p r us ws xs ys B3 H3 t2 ha hp bp hlp hr br hlr ne hP h1 h2 =>
    ⟨a, _, 1, .ref r, rfl, rfl, SqT.of ha, atI_nat (j := 1) rfl, k r ws ys B3 H3 (t.trans t2) (fresh_back t.eh hr) br hlr ⟨xs, hP⟩ h2⟩⟩
def eRaw : Enc V := ⟨fun _ v x => v = x, fun _ h => h⟩
/-- return (p, r), two lists of one's own -/
theorem c_ret2 {i j : Nat} {p r : Addr} (x0 : Ex B H) (hp : σ[i]? = some (some (.ref p))) (hr : σ[j]? = some (some (.ref r))) (k : ∀ t H1, Ex H H1 → H1 t = some (.tup [.ref p, .ref r]) → D.rt (.ref t) H1) : tRet (tTup (tCons (tVar i) (tCons (tVar j) tNil))) D σ H :=
  es_tup2 (E := eRaw) (F := eRaw) x0 (es_ev x0 (ev_var hp) rfl) (es_ev x0 (ev_var hr) rfl) H (Ex.refl _) _ fun v x B2 H2 s hS hR => by
    obtain ⟨a, u, w, h1, h2, h3, h4⟩ := hR
    have h3 : u = x.1 := h3
    have h4 : w = x.2 := h4
    subst h1
    rw [h3, h4, hS.1, hS.2] at h2
    exact k a H2 s.eh (s.bh _ _ h2)
end
section
variable {P : Program} {w : World} {K : PySem.W.Frag} {mg : Str → Option Value} {base : Heap}
theorem mk_def2 {ι α β : Type} {A : ι → Hp → List V → Prop} {Pre : ι → Prop} {E1 : Enc α} {F : Enc β} {Post : ι → List α → List β → Prop} {x : Str} {st : Stmt} {N ps : List Str} {k : Nat} (F0 : FunAt K mg x st) (S : FnScope N ps (defScope st))
    (bi : ∀ (kV doc pm : Value) (an : Option Addr) (cdv ct : Value) (us : List Value), us.length = ps.length → bindArgs (PySem.W.fnOf x x (defArgs st) (defBody st) (defScope st) .none kV doc pm an cdv ct) ⟨us, []⟩ = pure (ps.zip us))
    (hl : ∀ i, LenA ps.length (A i))
    (hbody : ∀ (f : Addr) (cdv : Value) (A0 : Around) (outer : List Env) (s : Shared) (E : XK) (i : ι) (B H : Hp) (vs : List V) (Q : VK), Room k (A0.deeper (envOfC x (defScope st) s.heap.objs.size f cdv)) → Ex B H → A i B vs → Pre i →
      (∀ t p r us ws xs ys B2 H2, Stp B H B2 H2 → H2 t = some (.tup [.ref p, .ref r]) → H p = none → B2 p = none → H2 p = some (.lst us) → H r = none → B2 r = none → H2 r = some (.lst ws) → p ≠ r → Post i xs ys → Paired (E1.R B2) us xs → Paired (F.R B2) ws ys → Q (.ref t) H2) →
      ∃ t, PSs (cxOf CX0 P w K mg base N x (defScope st) f cdv A0 outer s H E).nox (defBody st) t ∧ t { nx := fun _ H' => Q .non H', rt := Q } (start N vs) H) : DefOk P w K mg base (k + 1) x ps (SpecM2 A Pre E1 F Post) := by
  obtain ⟨f, fd, F1, hm⟩ := F0
  refine ⟨f, fd, ?_, hm, F1.kp, F1.binds (ps := ps) bi⟩
  refine F1.ok S (fun vs H Q E h => ?_) (fun cdv A0 outer s H vs Q E hr h => ?_)
  · obtain ⟨i, B, _, hA, _⟩ := h
    exact hl i B vs hA
  · obtain ⟨i, B, x0, hA, hp, q⟩ := h
    exact hbody f cdv A0 outer s E i B H vs Q hr x0 hA hp q
end
/-! ### plain facts -/
noncomputable def behindM (m : Int) (rs : List Road) (p : Int) : List Int := (rg m).filter fun v => pd (Rch (ends rs) v p)
theorem rch_in {m : Int} {rs : List Road} (hok : ∀ r ∈ rs, OkR m r) {u v : Int} (h : Rch (ends rs) u v) (hv : 0 ≤ v ∧ v < m) : 0 ≤ u ∧ u < m := by
  have hE := Net.inE hok
  induction h with
  | refl => exact hv
  | step _ e ih =>
    have := hE _ e
    exact ih ⟨this.1, this.2.1⟩
theorem mem_behindM {m : Int} {rs : List Road} (hok : ∀ r ∈ rs, OkR m r) {p : Int} (h0 : 0 ≤ p ∧ p < m) {v : Int} : v ∈ behindM m rs p ↔ Rch (ends rs) v p := by
  unfold behindM
  rw [List.mem_filter, mem_rg, pd_true]
  exact ⟨fun h => h.2, fun h => ⟨rch_in hok h h0, h⟩⟩
theorem behind_eq {m : Int} {rs : List Road} (hok : ∀ r ∈ rs, OkR m r) {p : Int} (h0 : 0 ≤ p ∧ p < m) {ys : List Int} (h : IsBehind rs p ys) : ys = behindM m rs p :=
  up_ext h.1 (up_filter _ (up_rg _)) fun v => (h.2 v).trans (mem_behindM hok h0).symm
theorem behind_is {m : Int} {rs : List Road} (hok : ∀ r ∈ rs, OkR m r) {p : Int} (h0 : 0 ≤ p ∧ p < m) : IsBehind rs p (behindM m rs p) := ⟨up_filter _ (up_rg _), fun v => mem_behindM hok h0⟩
theorem behind_le {m : Int} (rs : List Road) (p : Int) : (behindM m rs p).length ≤ m.toNat := by
  unfold behindM
  have := List.length_filter_le (fun v => pd (Rch (ends rs) v p)) (rg m)
  rw [rg_len] at this
  exact this
/-- behind a place that doesn't see p there are fewer -/
theorem behind_less {m : Int} {rs : List Road} (hok : ∀ r ∈ rs, OkR m r) {p o : Int} (h0 : 0 ≤ p ∧ p < m) (ho : o ∈ behindM m rs p) (hn : ¬ p ∈ behindM m rs o) : (behindM m rs o).length < (behindM m rs p).length := by
  have hop := (mem_behindM hok h0).mp ho
  have ho0 := rch_in hok hop h0
  have := sub_len (xs := p :: behindM m rs o) (ys := behindM m rs p) (List.nodup_cons.mpr ⟨hn, up_nodup (up_filter _ (up_rg _))⟩) fun v hv => by
    rcases List.mem_cons.mp hv with q | q
    · subst q
      exact (mem_behindM hok h0).mpr .refl
    · exact (mem_behindM hok h0).mpr (((mem_behindM hok ho0).mp q).trans hop)
  rw [List.length_cons] at this
  omega
theorem turned_ends (rs : List Road) : turned (ends rs) = rs.map fun r => (r.2.1, r.1) := by
  unfold turned ends
  rw [List.map_map]
  rfl
/-! ### the numbers of the roads that come in, what is left of them -/
def lf (rs : List Road) (ps : List Price) (n : Int) : Int := (rs.getD n.toNat (0, 0, 0)).2.2 - borne (rs.getD n.toNat (0, 0, 0)) ps
theorem lf_eq {rs : List Road} {ps : List Price} {n : Int} {r : Road} (h : rs[n.toNat]? = some r) : lf rs ps n = r.2.2 - borne r ps := by
  unfold lf
  rw [List.getD_eq_getElem?_getD, h]
  rfl
theorem mem_into {rs : List Road} {g : List Int} {n : Int} : n ∈ intoM rs g ↔ 0 ≤ n ∧ ∃ r, rs[n.toNat]? = some r ∧ comesIn r g = true := by
  unfold intoM
  rw [mem_sel]
  constructor
  · rintro ⟨a, b, r, h1, h2⟩
    exact ⟨a, r, h1, h2⟩
  · rintro ⟨a, r, h1, h2⟩
    have := (List.getElem?_eq_some_iff.mp h1).1
    exact ⟨a, by omega, r, h1, h2⟩
theorem into_pos {m root : Int} {rs : List Road} {g : List Int} (h : Spans m root rs) (hg : IsGroup m root g) : 0 < (intoM rs g).length := by
  have h1 := cntR_pos h hg
  unfold cntR at h1
  cases e : rs.filter fun r => comesIn r g with
  | nil =>
    rw [e] at h1
    cases h1
  | cons r xs =>
    have hr : r ∈ rs.filter fun r => comesIn r g := by
      rw [e]
      exact List.mem_cons_self
    obtain ⟨h2, h3⟩ := List.mem_filter.mp hr
    obtain ⟨n, hn⟩ := List.mem_iff_getElem?.mp h2
    exact List.length_pos_of_mem (a := (n : Int)) (mem_into.mpr ⟨Int.natCast_nonneg n, r, by rw [Int.toNat_natCast]; exact hn, h3⟩)
theorem least1_of {rs : List Road} {ps : List Price} {g : List Int} {c : Int} (h1 : c ∈ (intoM rs g).map (lf rs ps)) (h2 : ∀ y ∈ (intoM rs g).map (lf rs ps), c ≤ y) : Least1 rs ps g c := by
  refine ⟨fun r hr hc => ?_, ?_⟩
  · obtain ⟨n, hn⟩ := List.mem_iff_getElem?.mp hr
    have hn' : rs[((n : Int)).toNat]? = some r := by rw [Int.toNat_natCast]; exact hn
    have := h2 (lf rs ps (n : Int)) (List.mem_map.mpr ⟨_, mem_into.mpr ⟨Int.natCast_nonneg n, r, hn', hc⟩, rfl⟩)
    rw [lf_eq hn'] at this
    exact this
  · obtain ⟨n, hn, e⟩ := List.mem_map.mp h1
    obtain ⟨_, r, hr, hc⟩ := mem_into.mp hn
    exact ⟨r, List.mem_of_getElem? hr, hc, by rw [← e, lf_eq hr]⟩
theorem new_mem {rs : List Road} {ps : List Price} {g : List Int} {c n : Int} : n ∈ ((intoM rs g).filter fun n => decide (lf rs ps n - c = 0)) ↔ 0 ≤ n ∧ ∃ r, rs[n.toNat]? = some r ∧ comesIn r g = true ∧ r.2.2 - borne r ps = c := by
  rw [List.mem_filter, mem_into]
  constructor
  · rintro ⟨⟨a, r, h1, h2⟩, h3⟩
    have h3 := of_decide_eq_true h3
    rw [lf_eq h1] at h3
    exact ⟨a, r, h1, h2, by omega⟩
  · rintro ⟨a, r, h1, h2, h3⟩
    exact ⟨⟨a, r, h1, h2⟩, decide_eq_true (by rw [lf_eq h1]; omega)⟩
theorem each_into {rs : List Road} {ps : List Price} {g ls : List Int} {c : Int} (h : Each rs (fun n r => (r.2.2 - borne r ps) - if (n : Int) ∈ intoM rs g then c else 0) ls) : Each rs (fun _ r => r.2.2 - borne r (ps ++ [(g, c)])) ls :=
  h.congr fun n r hr => by
    rw [borne_snoc]
    by_cases hc : comesIn r g = true
    · rw [if_pos (mem_into.mpr ⟨Int.natCast_nonneg n, r, by rw [Int.toNat_natCast]; exact hr, hc⟩), if_pos hc]
      omega
    · rw [if_neg, if_neg hc]
      · omega
      · intro hm
        obtain ⟨_, q, hq, hq2⟩ := mem_into.mp hm
        rw [Int.toNat_natCast, hr] at hq
        cases hq
        exact hc hq2
theorem each_at {rs : List Road} {ps : List Price} {ls : List Int} (h : Each rs (fun _ r => r.2.2 - borne r ps) ls) {n : Int} {r : Road} (hr : rs[n.toNat]? = some r) : ls[n.toNat]? = some (lf rs ps n) := by
  rw [h.2 _ r hr, lf_eq hr]
theorem start_mem {rs : List Road} {n : Int} : (n ∈ (rg (rs.length : Int)).filter fun n => decide ((rs.getD n.toNat (0, 0, 0)).2.2 = 0)) ↔ 0 ≤ n ∧ ∃ r, rs[n.toNat]? = some r ∧ r.2.2 = 0 := by
  rw [List.mem_filter, mem_rg]
  constructor
  · rintro ⟨⟨a, b⟩, c⟩
    have hl : n.toNat < rs.length := by omega
    refine ⟨a, rs[n.toNat], List.getElem?_eq_getElem hl, ?_⟩
    have c := of_decide_eq_true c
    rw [List.getD_eq_getElem?_getD, List.getElem?_eq_getElem hl] at c
    exact c
  · rintro ⟨a, r, h1, h2⟩
    have := (List.getElem?_eq_some_iff.mp h1).1
    refine ⟨⟨a, by omega⟩, decide_eq_true ?_⟩
    rw [List.getD_eq_getElem?_getD, h1]
    exact h2
theorem filter_snoc_if {p : Int → Bool} {xs : List Int} {j : Nat} {n : Int} (h : xs[j]? = some n) : (xs.take (j + 1)).filter p = (xs.take j).filter p ++ if p n then [n] else [] := by
  rw [take_next h, List.filter_append, List.filter_cons, List.filter_nil]
end RR
namespace RR
open PySem L2 Evl PyProof.Rows
/-! ### trees as lists of numbers -/
theorem perm_set {n : Int} : ∀ {t : List (Option Int)} {i : Nat}, t[i]? = some none → ((t.set i (some n)).filterMap id).Perm (n :: t.filterMap id)
  | [], i, h => by cases h
  | x :: xs, 0, h => by
    cases h
    exact .refl _
  | none :: xs, i + 1, h => perm_set (t := xs) h
  | some y :: xs, i + 1, h => ((perm_set (t := xs) h).cons y).trans (.swap n y _)
theorem sum_perm {xs ys : List Int} (h : xs.Perm ys) : xs.sum = ys.sum := by
  induction h with
  | nil => rfl
  | cons x _ ih => rw [List.sum_cons, List.sum_cons, ih]
  | swap x y l =>
    simp only [List.sum_cons]
    omega
  | trans _ _ h1 h2 => exact h1.trans h2
theorem cost_perm {A C : List Road} (h : A.Perm C) : cost A = cost C := sum_perm (h.map _)
theorem cntR_perm {A C : List Road} (h : A.Perm C) (g : List Int) : cntR A g = cntR C g := (h.filter _).length_eq
theorem pick_perm {rs : List Road} {a b : List Int} (h : a.Perm b) : (pick rs a).Perm (pick rs b) := h.map _
theorem spans_perm {m root : Int} {A C : List Road} (h : A.Perm C) (s : Spans m root A) : Spans m root C := fun v h0 h1 => (s v h0 h1).mono fun e he => (h.map _).mem_iff.mp he
/-- what the list holds while ns are taken -/
structure Tf (m : Int) (rs : List Road) (t : List (Option Int)) (ns : List Int) : Prop where
  len : t.length = m.toNat
  no : ∀ v, 0 ≤ v → v < m → ¬ v ∈ (pick rs ns).map (fun r => r.2.1) → t[v.toNat]? = some none
  so : ∀ n ∈ ns, 0 ≤ n ∧ ∃ r, rs[n.toNat]? = some r ∧ t[r.2.1.toNat]? = some (some n)
  perm : (t.filterMap id).Perm ns
theorem tf0 {m : Int} (rs : List Road) : Tf m rs ((rg m).map fun _ => (none : Option Int)) [] := by
  refine ⟨by rw [List.length_map, rg_len], fun v h0 h1 _ => ?_, (fun n hn => by cases hn), ?_⟩
  · rw [List.getElem?_map, show (rg m)[v.toNat]? = some v from ?_]
    · rfl
    · unfold rg
      rw [List.getElem?_map, List.getElem?_range (by omega)]
      show some ((v.toNat : Int)) = some v
      congr 1
      omega
  · generalize rg m = xs
    induction xs with
    | nil => exact .refl _
    | cons x xs ih => exact ih
theorem tf_next {m : Int} {rs : List Road} {t : List (Option Int)} {ns : List Int} {n : Int} {r : Road} (hok : ∀ r ∈ rs, OkR m r) (h : Tf m rs t ns) (h0 : 0 ≤ n) (hr : rs[n.toNat]? = some r) (hno : ¬ r.2.1 ∈ (pick rs ns).map (fun r => r.2.1)) : Tf m rs (t.set r.2.1.toNat (some n)) (ns ++ [n]) := by
  obtain ⟨_, _, k1, k2, _⟩ := hok r (List.mem_of_getElem? hr)
  have hpn : pick rs (ns ++ [n]) = pick rs ns ++ [r] := by
    rw [pick_app]
    congr 1
    show [rs.getD n.toNat (0, 0, 0)] = [r]
    rw [List.getD_eq_getElem?_getD, hr]
    rfl
  have hnone := h.no r.2.1 k1 k2 hno
  refine ⟨by rw [List.length_set]; exact h.len, fun v v0 v1 hv => ?_, fun n' hn' => ?_, ?_⟩
  · rw [hpn, List.map_append] at hv
    have h1 : ¬ v ∈ (pick rs ns).map (fun r => r.2.1) := fun q => hv (List.mem_append_left _ q)
    have h2 : v ≠ r.2.1 := fun q => hv (List.mem_append_right _ (by rw [q]; exact List.mem_singleton.mpr rfl))
    rw [List.getElem?_set_ne (by omega)]
    exact h.no v v0 v1 h1
  · rcases List.mem_append.mp hn' with q | q
    · obtain ⟨a, r', h1, h2⟩ := h.so n' q
      refine ⟨a, r', h1, ?_⟩
      rw [List.getElem?_set_ne ?_]
      · exact h2
      · intro e
        rw [← e, hnone] at h2
        cases h2
    · rw [List.mem_singleton.mp q]
      exact ⟨h0, r, hr, List.getElem?_set_self (by have := (List.getElem?_eq_some_iff.mp hnone).1; exact this)⟩
  · exact (perm_set hnone).trans ((h.perm.cons n).trans (List.perm_append_singleton n ns).symm)
/-- a tree as a list of numbers, as cheap as any -/
structure TreeOf (m root : Int) (rs : List Road) (t : List (Option Int)) (ns : List Int) : Prop where
  tf : Tf m rs t ns
  tr : Tr m root (pick rs ns)
  rt : t[root.toNat]? = some none
  st : ∀ k r, (pick rs ns)[k]? = some r → r.1 ∈ root :: ((pick rs ns).take k).map fun r => r.2.1
  nd : (root :: (pick rs ns).map fun r => r.2.1).Nodup
  all : ∀ v, 0 ≤ v → v < m → v ∈ root :: (pick rs ns).map fun r => r.2.1
  le : Least m root rs (cost (pick rs ns))
theorem TreeOf.least {m root : Int} {rs : List Road} {t : List (Option Int)} {ns : List Int} (h : TreeOf m root rs t ns) : Least m root rs (cost (pick rs (t.filterMap id))) := by
  rw [cost_perm (pick_perm h.tf.perm)]
  exact h.le
theorem Tf.num {m : Int} {rs : List Road} {t : List (Option Int)} {ns : List Int} (h : Tf m rs t ns) {n : Int} (hn : some n ∈ t) : 0 ≤ n ∧ ∃ r, rs[n.toNat]? = some r := by
  have : n ∈ t.filterMap id := List.mem_filterMap.mpr ⟨some n, hn, rfl⟩
  obtain ⟨a, r, h1, _⟩ := h.so n (h.perm.mem_iff.mp this)
  exact ⟨a, r, h1⟩
theorem sum_tree (rs : List Road) : ∀ t : List (Option Int), ((t.filter fun o => !o.isNone).map fun o => match o with | none => (0 : Int) | some n => (rs.getD n.toNat (0, 0, 0)).2.2).sum = cost (pick rs (t.filterMap id))
  | [] => rfl
  | none :: xs => sum_tree rs xs
  | some n :: xs => by
    show _ + _ = _ + _
    exact congrArg _ (sum_tree rs xs)
/-- the first of some numbers whose road leads on from some places -/
structure FirstOut (rs : List Road) (sp met : List Int) (o : Option Int) : Prop where
  no : o = none → ∀ (n : Int) r, n ∈ sp → rs[n.toNat]? = some r → r.1 ∈ met → r.2.1 ∈ met
  so : ∀ n, o = some n → ∃ (i : Nat) (r : Road), sp[i]? = some n ∧ rs[n.toNat]? = some r ∧ r.1 ∈ met ∧ ¬ r.2.1 ∈ met ∧ ∀ (j : Nat) (n' : Int) (q : Road), j < i → sp[j]? = some n' → rs[n'.toNat]? = some q → q.1 ∈ met → q.2.1 ∈ met
theorem pick_at {rs : List Road} {sp : List Int} {i : Nat} {n : Int} {r : Road} (h : sp[i]? = some n) (hr : rs[n.toNat]? = some r) : (pick rs sp)[i]? = some r := by
  unfold pick
  rw [List.getElem?_map, h]
  show some (rs.getD n.toNat (0, 0, 0)) = some r
  rw [List.getD_eq_getElem?_getD, hr]
  rfl
theorem first_next {m root : Int} {rs : List Road} {ps : List Price} {sp : List Int} {A : List Road} {o : Option Int} (w : Wk m root rs ps sp) (hf : FirstOut rs sp (root :: A.map fun r => r.2.1) o) (hx : ∃ i r, Next root (pick rs sp) A i r) :
    ∃ n i r, o = some n ∧ 0 ≤ n ∧ rs[n.toNat]? = some r ∧ Next root (pick rs sp) A i r := by
  cases o with
  | none =>
    obtain ⟨i, r, hx⟩ := hx
    obtain ⟨n, hn, hr⟩ := (pick_mem w.ok).mp (List.mem_of_getElem? hx.here)
    exact absurd (hf.no rfl n r hn hr hx.on) hx.off
  | some n =>
    obtain ⟨i, r, h1, h2, h3, h4, h5⟩ := hf.so n rfl
    obtain ⟨h0, _⟩ := (w.tight n).mp (List.mem_of_getElem? h1)
    refine ⟨n, i, r, rfl, h0, h2, ⟨pick_at h1 h2, h3, h4, fun j q hj hq ha => ?_⟩⟩
    have hjl : j < sp.length := by
      have := (List.getElem?_eq_some_iff.mp h1).1
      omega
    have hn' := List.getElem?_eq_getElem hjl
    obtain ⟨q', hq'⟩ := w.ok _ (List.mem_of_getElem? hn')
    have := pick_at hn' hq'
    rw [hq] at this
    cases this
    exact h5 j _ q hj hn' hq' ha
section
variable {α : Type} {te : TE} {σ : L2.St} {B H : Hp} {S : Int → Prop}
theorem es_opBS {ta tb : TE} {g : Int → Int → Bool} {y : Int} (x0 : Ex B H) (ha : EvS eI ta σ B H S) (hb : EvE eI tb σ B H y) : EvS eB (tOp (rI0 fun i j => .bl (g i j)) ta tb) σ B H (fun b => ∃ x, S x ∧ b = g x y) := fun H1 e Q k =>
  ha H1 e _ fun v x B2 H2 t hS hR => hb.up ((Stp.go x0 e).trans t) H2 (Ex.refl _) _ fun w y' B3 H3 t2 hy hw => by
    cases hy
    cases hR
    cases hw
    exact ⟨x, y, rfl, rfl, k _ _ B3 H3 (t.trans t2) ⟨x, hS, rfl⟩ rfl⟩
theorem es_lenTS {β : Type} {E : Enc β} {ta : TE} {K : PySem.W.Frag} {T : List β → Prop} (x0 : Ex B H) (h : EvS (eL E) ta σ B H T) : EvS eI (tCB (rLenS K) (tCons ta tNil)) σ B H (fun n => ∃ ys, T ys ∧ n = (ys.length : Int)) := fun H1 e Q k =>
  h H1 e _ fun v xs B2 H2 t hT ⟨a, vs, h1, h2, h3⟩ => ⟨a, vs, by rw [h1], .inl (SqL.of (t.bh _ _ h2)), by rw [pl h3]; exact k _ _ B2 H2 t ⟨xs, hT, rfl⟩ rfl⟩
theorem es_callS2 {β γ δ : Type} {E : Enc β} {F : Enc γ} {G : Enc δ} {ta tb : TE} {T : γ → Prop} {Pre : β × γ → Prop} {Post : β × γ → δ → Prop} {X : XK} (x : β) (x0 : Ex B H) (ha : EvE E ta σ B H x) (hb : EvS F tb σ B H T) (hp : ∀ y, T y → Pre (x, y)) :
    EvS G (tCall (Spec (ar2 E F) Pre G Post) [] X (tCons ta (tCons tb tNil))) σ B H (fun z => ∃ y, T y ∧ Post (x, y) z) := fun H1 e Q k =>
  ea_c x0 (mono_aC mono_aN) ha (ea_c x0 mono_aN hb (ea_n x0)) H1 e _ fun vs B2 H2 t hA => by
    obtain ⟨v, x', r, rfl, hS, hx, w, y, r', rfl, hT, hy, rfl⟩ := hA
    subst hS
    exact ⟨(x', y), B2, t.bh, ⟨v, x', [w], rfl, rfl, hx, w, y, [], rfl, rfl, hy, rfl⟩, hp y hT, fun w z B3 H3 t2 hz hR => k w z B3 H3 (t.trans t2) ⟨y, hT, hz⟩ hR⟩
theorem es_someI (h : EvS eI te σ B H S) : EvS eO te σ B H (fun o => ∃ n, o = some n ∧ S n) := fun H1 e Q k =>
  h H1 e Q fun v x B2 H2 t hS hR => k v (some x) B2 H2 t ⟨x, rfl, hS⟩ (by cases hR; rfl)
end
theorem cut_spans {m root : Int} {rs : List Road} {ys : List Int} (h : IsCut m rs root ys) : ys.length = 0 ↔ Spans m root rs := by
  constructor
  · intro e v h0 h1
    exact Classical.byContradiction fun q => by
      have := (h.2 v).mpr ⟨h0, h1, q⟩
      rw [List.length_eq_zero_iff.mp e] at this
      cases this
  · intro s
    cases ys with
    | nil => rfl
    | cons y ys =>
      obtain ⟨a, b, c⟩ := (h.2 y).mp List.mem_cons_self
      exact absurd (s y a b) c
end RR
namespace RR
open PySem L2 Evl PyProof.Rows
/-! ### drawn nets -/
theorem spans_mono {m root : Int} {A C : List Road} (h : ∀ r ∈ A, r ∈ C) (s : Spans m root A) : Spans m root C := fun v h0 h1 => (s v h0 h1).mono fun e he => by
  obtain ⟨a, b⟩ := e
  obtain ⟨r, hr, e1, e2⟩ := mem_ends.mp he
  exact mem_ends.mpr ⟨r, h r hr, e1, e2⟩
theorem spans_ends {m root : Int} {A C : List Road} (h : ends A = ends C) (s : Spans m root A) : Spans m root C := fun v h0 h1 => h ▸ s v h0 h1
/-- the places root, root + 1, .. (k of them) are come to -/
def Drawn (m root k : Int) (rs : List Road) : Prop := ∀ j, 0 ≤ j → j < k → Rch (ends rs) root ((root + j) % m)
theorem drawn1 {m root : Int} (h0 : 0 ≤ root) (h1 : root < m) (rs : List Road) : Drawn m root 1 rs := fun j j0 j1 => by
  have : j = 0 := by omega
  subst this
  rw [Int.add_zero, Int.emod_eq_of_lt h0 h1]
  exact .refl
theorem drawn_next {m root k d c : Int} {rs : List Road} (h : Drawn m root k rs) (d0 : 0 ≤ d) (d1 : d < k) : Drawn m root (k + 1) (rs ++ [((root + d) % m, (root + k) % m, c)]) := fun j j0 j1 => by
  have hm : ∀ e ∈ ends rs, e ∈ ends (rs ++ [((root + d) % m, (root + k) % m, c)]) := fun e he => by
    obtain ⟨a, b⟩ := e
    obtain ⟨r, hr, e1, e2⟩ := mem_ends.mp he
    exact mem_ends.mpr ⟨r, List.mem_append_left _ hr, e1, e2⟩
  by_cases e : j = k
  · subst e
    exact .step ((h d d0 d1).mono hm) (mem_ends.mpr ⟨_, List.mem_append_right _ (List.mem_singleton.mpr rfl), rfl, rfl⟩)
  · exact (h j j0 (by omega)).mono hm
theorem drawn_spans {m root : Int} {rs : List Road} (hm : 0 < m) (h : Drawn m root m rs) : Spans m root rs := fun v v0 v1 => by
  have := h ((v - root) % m) (Int.emod_nonneg _ (by omega)) (Int.emod_lt_of_pos _ hm)
  rw [Int.add_emod_emod, show root + (v - root) = v by omega, Int.emod_eq_of_lt v0 v1] at this
  exact this
theorem drawn_ok {m root k d : Int} (h0 : 0 ≤ root) (h1 : root < m) (d0 : 0 ≤ d) (d1 : d < k) (k1 : k < m) : (0 ≤ (root + d) % m ∧ (root + d) % m < m) ∧ (0 ≤ (root + k) % m ∧ (root + k) % m < m) ∧ (root + d) % m ≠ (root + k) % m := by
  rw [emod_add_lt h0 h1 d0 (by omega), emod_add_lt h0 h1 (by omega) k1]
  split <;> split <;> omega
theorem pair_ends {S : Road → Road → Prop} (h : ∀ r z, S r z → z.1 = r.1 ∧ z.2.1 = r.2.1) : ∀ {rs zs : List Road}, Paired S rs zs → ends zs = ends rs
  | _, _, .nil => rfl
  | _, _, .cons r t => by
    have e := pair_ends h t
    obtain ⟨e1, e2⟩ := h _ _ r
    show (_, _) :: _ = (_, _) :: _
    rw [e1, e2]
    exact congrArg _ e
theorem pair_from {α β : Type} {S : α → β → Prop} : ∀ {xs : List α} {ys : List β}, Paired S xs ys → ∀ {y : β}, y ∈ ys → ∃ x ∈ xs, S x y
  | _, _, .nil, y, h => by cases h
  | _, _, .cons r t, y, h => by
    rcases List.mem_cons.mp h with q | q
    · subst q
      exact ⟨_, List.mem_cons_self, r⟩
    · obtain ⟨x, hx, hs⟩ := pair_from t q
      exact ⟨x, List.mem_cons_of_mem _ hx, hs⟩
theorem turn_mem {α : Type} {xs : List α} {n : Nat} {x : α} : x ∈ xs.drop n ++ xs.take n ↔ x ∈ xs := by
  rw [List.mem_append]
  constructor
  · rintro (h | h)
    · exact List.mem_of_mem_drop h
    · exact List.mem_of_mem_take h
  · intro h
    rw [← List.take_append_drop n xs, List.mem_append] at h
    exact h.symm
/-- the net a law draws -/
structure Nets (m root : Int) (rs : List Road) : Prop where
  ok : ∀ r ∈ rs, OkR m r
  sp : Spans m root rs
  len : rs.length ≤ 60
theorem Nets.app {m root : Int} {rs qs : List Road} (h : Nets m root rs) (hq : ∀ r ∈ qs, OkR m r) (hl : rs.length + qs.length ≤ 60) : Nets m root (rs ++ qs) :=
  ⟨fun r hr => (List.mem_append.mp hr).elim (h.ok r) (hq r), spans_mono (fun r hr => List.mem_append_left _ hr) h.sp, by rw [List.length_append]; exact hl⟩
theorem Nets.turn {m root : Int} {rs : List Road} (h : Nets m root rs) (n : Nat) : Nets m root (rs.drop n ++ rs.take n) :=
  ⟨fun r hr => h.ok r (turn_mem.mp hr), spans_mono (fun r hr => turn_mem.mpr hr) h.sp, by rw [List.length_append, List.length_drop, List.length_take]; have := h.len; omega⟩
theorem Nets.net {m root : Int} {rs : List Road} (h : Nets m root rs) (h1 : 1 ≤ m) (h2 : m ≤ 12) : Net m rs := ⟨h1, h2, h.len, h.ok⟩
/-- the sum of the prices of those that a road comes into -/
theorem sum_filter (r : Road) : ∀ ps : List Price, ((ps.filter fun p => comesIn r p.1).map fun p => p.2).sum = borne r ps
  | [] => rfl
  | p :: ps => by
    have ih := sum_filter r ps
    show _ = ((p :: ps).map fun p => if comesIn r p.1 then p.2 else 0).sum
    rw [List.map_cons, List.sum_cons, List.filter_cons]
    cases h : comesIn r p.1 with
    | true =>
      rw [if_pos rfl, if_pos rfl, List.map_cons, List.sum_cons, ih]
      rfl
    | false =>
      rw [if_neg Bool.false_ne_true, if_neg Bool.false_ne_true, ih]
      show borne r ps = 0 + borne r ps
      omega
theorem used_tree (rs : List Road) : ∀ t : List (Option Int), ((t.filter fun o => !o.isNone).map fun o => match o with | none => ((0, 0, 0) : Road) | some n => rs.getD n.toNat (0, 0, 0)) = pick rs (t.filterMap id)
  | [] => rfl
  | none :: xs => used_tree rs xs
  | some n :: xs => by
    show _ :: _ = _ :: _
    exact congrArg _ (used_tree rs xs)
section
variable {te ta tb : TE} {σ : L2.St} {B H B0 H0 : Hp} {K : PySem.W.Frag} {D : Ends} {i : Nat} {tz : TS}
/-- what is surely an int -/
theorem es_isInt {S : Option Int → Prop} {n : Int} (h : EvS eO te σ B H S) (hn : ∀ o, S o → o = some n) : EvE eI te σ B H n := fun H1 e Q k =>
  h H1 e Q fun v x B2 H2 t hS hR => k v n B2 H2 t rfl (by
    have := hn x hS
    subst this
    exact hR)
theorem es_notBl {a b : Bool} (x0 : Ex B H) (ha : EvE eB ta σ B H a) (hb : EvE eB tb σ B H b) : EvE eB (tOp rNotB ta tb) σ B H (!decide (a = b)) :=
  es_op x0 ha hb fun v w B2 H2 _ hv hw => ⟨_, rfl, fun Q q => ⟨a, b, hv, hw, q⟩⟩
theorem es_isBl {a b : Bool} (x0 : Ex B H) (ha : EvE eB ta σ B H a) (hb : EvE eB tb σ B H b) : EvE eB (tOp rIsB ta tb) σ B H (decide (a = b)) :=
  es_op x0 ha hb fun v w B2 H2 _ hv hw => ⟨_, rfl, fun Q q => ⟨a, b, hv, hw, q⟩⟩
theorem q_clear {l : Addr} {xs : List V} (c : Cell H0 B H l (.lst xs)) (s0 : Stp B0 H0 B H) (ho : σ[i]? = some (some (.ref l)))
    (k : ∀ H1, Stp B0 H0 B H1 → Cell H0 B H1 l (.lst []) → (∀ p o, p ≠ l → Cell H0 B H p o → Cell H0 B H1 p o) → tz D σ H1) : tSeq (tDrop (tBM0 K "list" rClear (tVar i))) tz D σ H := c_clear (D := { D with nx := tz D }) c s0 ho k
end
end RR
namespace RR
open PySem L2 Evl PyProof.Rows
/-! ### the tree that cheapest tells is one -/
theorem thO_get {t : List (Option Int)} {i : Nat} {o : Option Int} (h : t[i]? = some o) : (t.map thO)[i]? = some (thO o) := by
  rw [List.getElem?_map, h]
  rfl
theorem treeof_at {m root : Int} {rs : List Road} {t : List (Option Int)} {ns : List Int} (h : TreeOf m root rs t ns) {r : Road} (hr : r ∈ pick rs ns) : ∃ n, (t.map thO)[r.2.1.toNat]? = some (.int n) ∧ 0 ≤ n ∧ rs[n.toNat]? = some r := by
  obtain ⟨n, hn, e⟩ := (pick_mem fun n hn => (h.tf.so n hn).2.elim fun r h => ⟨r, h.1⟩).mp hr
  obtain ⟨h0, q, hq, ht⟩ := h.tf.so n hn
  rw [e] at hq
  cases hq
  exact ⟨n, thO_get ht, h0, e⟩
theorem treeof_back {m root : Int} {rs : List Road} {t : List (Option Int)} {ns : List Int} (h : TreeOf m root rs t ns) : ∀ k, ∀ v ∈ root :: ((pick rs ns).take k).map fun r => r.2.1, ∃ j, itn (goB rs (t.map thO) root) j v = root
  | 0, v, hv => ⟨0, List.mem_singleton.mp hv⟩
  | k + 1, v, hv => by
    cases hn : (pick rs ns)[k]? with
    | none =>
      refine treeof_back h k v ?_
      have h1 := List.getElem?_eq_none_iff.mp hn
      rw [List.take_of_length_le (by omega)] at hv
      rw [List.take_of_length_le h1]
      exact hv
    | some r =>
      rw [take_next hn, List.map_append] at hv
      rcases List.mem_cons.mp hv with q | q
      · exact ⟨0, q⟩
      · rcases List.mem_append.mp q with q | q
        · exact treeof_back h k v (List.mem_cons_of_mem _ q)
        · have q := List.mem_singleton.mp q
          subst q
          obtain ⟨j, hj⟩ := treeof_back h k _ (h.st k r hn)
          obtain ⟨n, h1, h2, h3⟩ := treeof_at h (List.mem_of_getElem? hn)
          have hne : r.2.1 ≠ root := fun e => (List.nodup_cons.mp h.nd).1 (List.mem_map.mpr ⟨r, List.mem_of_getElem? hn, e⟩)
          refine ⟨j + 1, ?_⟩
          rw [itn_add]
          have : itn (goB rs (t.map thO) root) 1 r.2.1 = r.1 := by
            show goB rs (t.map thO) root r.2.1 = r.1
            unfold goB
            rw [if_neg hne, stOf_eq h1 h3]
          rw [this]
          exact hj
theorem treeof_is {m root : Int} {rs : List Road} {t : List (Option Int)} {ns : List Int} (h : TreeOf m root rs t ns) (hok : ∀ r ∈ rs, OkR m r) (h0 : 0 ≤ root) (h1 : root < m) : IsTree m rs root (t.map thO) := by
  have hin : ∀ v, 0 ≤ v → v < m → v ≠ root → InT rs (t.map thO) v := fun v a b c => by
    rcases List.mem_cons.mp (h.all v a b) with q | q
    · exact absurd q c
    · obtain ⟨r, hr, e⟩ := List.mem_map.mp q
      obtain ⟨n, k1, k2, k3⟩ := treeof_at h hr
      subst e
      exact ⟨n, r, k1, k2, k3, rfl⟩
  refine ⟨by rw [List.length_map]; exact h.tf.len, thO_get h.rt, hin, fun v a b => ?_⟩
  refine itn_most (goB_root rs _ root) h0 h1 (fun v a b => goB_in hok h0 h1 hin a b) a b (treeof_back h (pick rs ns).length v ?_)
  rw [List.take_length]
  exact h.all v a b
/-! ### in lists of truth values -/
theorem eqV_bl (x y : Bool) : eqV (V.bl x) (V.bl y) = decide (x = y) := by
  cases x <;> cases y <;> rfl
theorem inV_bools (x : Bool) : ∀ bs : List Bool, inV (V.bl x) (bs.map V.bl) = decide (x ∈ bs)
  | [] => by simp [inV]
  | b :: r => by
    have ih := inV_bools x r
    unfold inV at ih ⊢
    rw [List.map_cons, List.any_cons, ih, eqV_bl]
    by_cases h : b = x
    · subst h
      simp
    · have h' : ¬ x = b := fun q => h q.symm
      simp [h, h']
theorem flat_bools : ∀ bs : List Bool, (bs.map V.bl).all flatV = true
  | [] => rfl
  | _ :: r => by
    rw [List.map_cons, List.all_cons, flat_bools r]
    rfl
section
variable {α β γ δ : Type} {F : Enc β} {te ta tb : TE} {σ : L2.St} {B H : Hp} {K : PySem.W.Frag} {ar : TA}
theorem es_ninB {x : Bool} {bs : List Bool} (x0 : Ex B H) (ha : EvE eB ta σ B H x) (hb : EvE (eL eB) tb σ B H bs) : EvE eB (tOp (rIn K true) ta tb) σ B H (!decide (x ∈ bs)) :=
  es_op x0 ha hb fun v w B2 H2 x2 hv hw => ⟨_, rfl, fun Q q => by
    cases hv
    obtain ⟨a, vs, h1, h2, h3⟩ := hw
    rw [pB h3] at h2
    exact ⟨a, _, h1, .inl (SqL.of (x2 _ _ h2)), rfl, flat_bools bs, by rw [inV_bools]; exact q⟩⟩
/-- a call with arguments that are known in part -/
theorem es_callE {ι : Type} {A : ι → Hp → List V → Prop} {A' : Hp → List V → Prop} {Pre : ι → Prop} {Post : ι → β → Prop} {P : β → Prop} {X : XK} (h : EvAr ar σ B H A') (hA : ∀ B vs, A' B vs → ∃ i, A i B vs ∧ Pre i ∧ ∀ y, Post i y → P y) : EvS F (tCall (Spec A Pre F Post) [] X ar) σ B H P := fun H1 e Q k =>
  h H1 e _ fun vs B2 H2 t hA' => by
    obtain ⟨i, a, p, q⟩ := hA B2 vs hA'
    exact ⟨i, B2, t.bh, by rw [List.append_nil]; exact a, p, fun w y B3 H3 t2 hy hR => k w y B3 H3 (t.trans t2) (q y hy) hR⟩
end
end RR
namespace RR
open PySem L2 Evl PyProof.Rows
/-! ### all choices of a road into each place -/
def Okk (rs : List Road) (root v : Int) (o : Option Int) : Prop := (v = root ∧ o = none) ∨ (v ≠ root ∧ ∃ n r, o = some n ∧ 0 ≤ n ∧ rs[n.toNat]? = some r ∧ r.2.1 = v)
def Choice (rs : List Road) (root : Int) (i : Nat) (row : List (Option Int)) : Prop := row.length = i ∧ ∀ (v : Nat) o, row[v]? = some o → Okk rs root (v : Int) o
theorem choice0 (rs : List Road) (root : Int) (row : List (Option Int)) : row ∈ [([] : List (Option Int))] ↔ Choice rs root 0 row := by
  rw [List.mem_singleton]
  constructor
  · intro e
    subst e
    exact ⟨rfl, fun v o h => by simp at h⟩
  · intro h
    exact List.length_eq_zero_iff.mp h.1
theorem choice_next {rs : List Road} {root : Int} {i : Nat} {r : List (Option Int)} : Choice rs root (i + 1) r ↔ ∃ row o, Choice rs root i row ∧ Okk rs root (i : Int) o ∧ r = row ++ [o] := by
  constructor
  · rintro ⟨h1, h2⟩
    have hne : r ≠ [] := by
      intro e
      rw [e] at h1
      cases h1
    obtain ⟨ys, y, rfl⟩ : ∃ ys y, r = ys ++ [y] := ⟨r.dropLast, r.getLast hne, (List.dropLast_concat_getLast hne).symm⟩
    have hl : ys.length = i := by
      rw [List.length_append, List.length_singleton] at h1
      omega
    refine ⟨ys, y, ⟨hl, fun v o hv => h2 v o ?_⟩, h2 i _ ?_, rfl⟩
    · rw [List.getElem?_append_left (List.getElem?_eq_some_iff.mp hv).1]
      exact hv
    · rw [← hl]
      exact List.getElem?_concat_length
  · rintro ⟨row, o, ⟨h1, h2⟩, h3, rfl⟩
    refine ⟨by rw [List.length_append, List.length_singleton, h1], fun v q hv => ?_⟩
    by_cases hk : v < row.length
    · rw [List.getElem?_append_left hk] at hv
      exact h2 v q hv
    · have hk2 : v = row.length := by
        have := (List.getElem?_eq_some_iff.mp hv).1
        rw [List.length_append, List.length_singleton] at this
        omega
      subst hk2
      rw [List.getElem?_concat_length] at hv
      cases hv
      rw [h1]
      exact h3
section
variable {m root : Int} {rs : List Road} {row : List (Option Int)}
theorem choice_at (h : Choice rs root m.toNat row) {v : Int} (a : 0 ≤ v) (b : v < m) : ∃ o, row[v.toNat]? = some o ∧ Okk rs root v o := by
  have hl : v.toNat < row.length := by rw [h.1]; omega
  refine ⟨_, List.getElem?_eq_getElem hl, ?_⟩
  have := h.2 v.toNat _ (List.getElem?_eq_getElem hl)
  rw [Int.toNat_of_nonneg a] at this
  exact this
theorem choice_in (h : Choice rs root m.toNat row) {v : Int} (a : 0 ≤ v) (b : v < m) (c : v ≠ root) : ∃ n r, row[v.toNat]? = some (some n) ∧ 0 ≤ n ∧ rs[n.toNat]? = some r ∧ r.2.1 = v := by
  obtain ⟨o, h1, h2⟩ := choice_at h a b
  rcases h2 with ⟨e, _⟩ | ⟨_, n, r, rfl, k1, k2, k3⟩
  · exact absurd e c
  · exact ⟨n, r, h1, k1, k2, k3⟩
theorem choice_inT (h : Choice rs root m.toNat row) {v : Int} (a : 0 ≤ v) (b : v < m) (c : v ≠ root) : InT rs (row.map thO) v := by
  obtain ⟨n, r, h1, h2, h3, h4⟩ := choice_in h a b c
  exact ⟨n, r, thO_get h1, h2, h3, h4⟩
theorem choice_num (h : Choice rs root m.toNat row) {n : Int} (hn : some n ∈ row) : 0 ≤ n ∧ ∃ r, rs[n.toNat]? = some r := by
  obtain ⟨v, hv⟩ := List.mem_iff_getElem?.mp hn
  rcases h.2 v _ hv with ⟨_, e⟩ | ⟨_, n', r, e, k1, k2, _⟩
  · cases e
  · cases e
    exact ⟨k1, r, k2⟩
/-- where going back from each place leads to the root, the roads lead from it to all -/
theorem choice_spans (h : Choice rs root m.toNat row) (hok : ∀ r ∈ rs, OkR m r) (hb : ∀ v, 0 ≤ v → v < m → itn (goB rs (row.map thO) root) m.toNat v = root) :
    (∀ r ∈ pick rs (row.filterMap id), r ∈ rs) ∧ Spans m root (pick rs (row.filterMap id)) := by
  have hnum : ∀ n ∈ row.filterMap id, ∃ r, rs[n.toNat]? = some r := fun n hn => by
    obtain ⟨o, ho, e⟩ := List.mem_filterMap.mp hn
    have e : o = some n := e
    subst e
    exact (choice_num h ho).2
  refine ⟨fun r hr => ?_, fun v a b => ?_⟩
  · obtain ⟨n, _, e⟩ := (pick_mem hnum).mp hr
    exact List.mem_of_getElem? e
  · have key : ∀ (k : Nat) (v : Int), 0 ≤ v → v < m → itn (goB rs (row.map thO) root) k v = root → Rch (ends (pick rs (row.filterMap id))) root v := fun k => by
      induction k with
      | zero =>
        intro v a b e
        have e : v = root := e
        subst e
        exact .refl
      | succ k ih =>
        intro v a b e
        by_cases c : v = root
        · subst c
          exact .refl
        · obtain ⟨n, r, h1, h2, h3, h4⟩ := choice_in h a b c
          obtain ⟨q1, q2, _⟩ := hok r (List.mem_of_getElem? h3)
          have hg : goB rs (row.map thO) root v = r.1 := by
            unfold goB
            rw [if_neg c, stOf_eq (thO_get h1) h3]
          rw [itn_add] at e
          have e : itn (goB rs (row.map thO) root) k (goB rs (row.map thO) root v) = root := e
          rw [hg] at e
          have := ih r.1 q1 q2 e
          rw [← h4]
          exact .step this (mem_ends.mpr ⟨r, (pick_mem hnum).mpr ⟨n, List.mem_filterMap.mpr ⟨some n, List.mem_of_getElem? h1, rfl⟩, h3⟩, rfl, rfl⟩)
    exact key m.toNat v a b (hb v a b)
theorem treeof_choice {t : List (Option Int)} {ns : List Int} (h : TreeOf m root rs t ns) (hok : ∀ r ∈ rs, OkR m r) (h0 : 0 ≤ root) (h1 : root < m) : Choice rs root m.toNat t := by
  have hI := treeof_is h hok h0 h1
  refine ⟨h.tf.len, fun v o hv => ?_⟩
  have hvm : (v : Int) < m := by
    have := (List.getElem?_eq_some_iff.mp hv).1
    have := h.tf.len
    omega
  by_cases c : (v : Int) = root
  · have := h.rt
    rw [← c, Int.toNat_natCast, hv] at this
    cases this
    exact .inl ⟨c, rfl⟩
  · obtain ⟨n, r, k1, k2, k3, k4⟩ := hI.inn v (by omega) hvm c
    rw [Int.toNat_natCast, thO_get hv] at k1
    cases o with
    | none => cases k1
    | some n' =>
      have k1 := Option.some.inj k1
      cases k1
      exact .inr ⟨c, n, r, rfl, k2, k3, k4⟩
end
/-! ### equal lists of numbers and None -/
theorem eqv_dO {x y : Option Int} (h : PyData.eqv (dO x) (dO y) = true) : x = y := by
  cases x with
  | none =>
    cases y with
    | none => rfl
    | some j => simp [dO, PyData.eqv] at h
  | some i =>
    cases y with
    | none => simp [dO, PyData.eqv] at h
    | some j =>
      simp [dO, PyData.eqv] at h
      rw [h]
theorem eqv_rows : ∀ {xs ys : List (Option Int)}, PyData.eqvAll (xs.map dO) (ys.map dO) = true → xs = ys
  | [], [], _ => rfl
  | [], _ :: _, h => by simp [PyData.eqvAll] at h
  | _ :: _, [], h => by simp [PyData.eqvAll] at h
  | x :: xs, y :: ys, h => by
    rw [List.map_cons, List.map_cons] at h
    simp only [PyData.eqvAll, Bool.and_eq_true] at h
    rw [eqv_dO h.1, eqv_rows h.2]
theorem eqv_row {xs ys : List (Option Int)} (h : PyData.eqv ((deL deO).d xs) ((deL deO).d ys) = true) : xs = ys := by
  have h : PyData.eqv (.list (xs.map dO)) (.list (ys.map dO)) = true := h
  simp only [PyData.eqv] at h
  exact eqv_rows h
section
variable {α β : Type} {E : Enc α} {F : Enc β} {n : Nat} {te ta tb : TE} {σ : L2.St} {B H : Hp} {K : PySem.W.Frag}
/-- x not in xs, data of any depth -/
theorem es_ninD {x : α} {xs : List α} (D1 : De E n) (hn : n + 1 ≤ 64) (x0 : Ex B H) (ha : EvE E ta σ B H x) (hb : EvE (eL E) tb σ B H xs) (hm : x ∈ xs) : EvE eB (tOp (rNotInD K) ta tb) σ B H false :=
  es_op x0 ha hb fun v w B2 H2 x2 hv hw => ⟨.bl false, rfl, fun Q q => ⟨D1.d x, xs.map D1.d, D1.ok (E.up x2 hv), (deL D1).ok ((eL E).up x2 hw), D1.sh (by omega) x, (deL D1).sh hn xs, by
    have : ((xs.map D1.d).any fun z => PyData.eqv z (D1.d x)) = true := List.any_eq_true.mpr ⟨D1.d x, List.mem_map.mpr ⟨x, hm, rfl⟩, D1.refl x⟩
    rw [this]
    exact q⟩⟩
/-- xs.index(x) -/
theorem es_index {x : α} {xs : List α} (D1 : De E n) (hn : n + 1 ≤ 64) (x0 : Ex B H) (ha : EvE (eL E) ta σ B H xs) (hb : EvE E tb σ B H x) (hm : x ∈ xs) :
    EvS eI (tBM K "list" (rIndexD K) ta (tCons tb tNil)) σ B H (fun y => ∃ (j : Nat) (z : α), y = (j : Int) ∧ xs[j]? = some z ∧ PyData.eqv (D1.d z) (D1.d x) = true) := fun H1 e Q k =>
  ha H1 e _ fun v xs' B2 H2 t hx hR => by
    cases hx
    have hR0 := hR
    obtain ⟨a, vs, rfl, h2, h3⟩ := hR
    refine ⟨.inl ⟨rfl, vs, SqL.of (t.bh _ _ h2)⟩, hb.up ((Stp.go x0 e).trans t) H2 (Ex.refl _) _ fun w x' B3 H3 t2 hy hw => ?_⟩
    subst hy
    obtain ⟨j, z, k1, k2, k3⟩ := first_one (P := fun z => PyData.eqv (D1.d z) (D1.d x') = true) (xs := xs) ⟨x', hm, D1.refl x'⟩
    refine ⟨a, w, D1.d x', xs.map D1.d, j, D1.d z, rfl, rfl, (deL D1).ok ((eL E).up (t2.eb.trans t2.bh) hR0), D1.ok (E.up t2.bh hw), (deL D1).sh hn xs, D1.sh (by omega) x', ?_, k2, fun m z' hm' hz' => ?_, k _ _ B3 H3 (t.trans t2) ⟨j, z, rfl, k1, k2⟩ rfl⟩
    · rw [List.getElem?_map, k1]
      rfl
    · rw [List.getElem?_map] at hz'
      cases hq : xs[m]? with
      | none =>
        rw [hq] at hz'
        cases hz'
      | some u =>
        rw [hq] at hz'
        have hz' := Option.some.inj hz'
        subst hz'
        have := k3 m u hm' hq
        simpa using this
/-- an item by an index known in part -/
theorem es_ixLE {T : Int → Prop} {xs : List α} {x : α} (x0 : Ex B H) (ha : EvE (eL E) ta σ B H xs) (hb : EvS eI tb σ B H T) (hx : ∀ j, T j → 0 ≤ j ∧ xs[j.toNat]? = some x) : EvE E (tOp (rIxL K) ta tb) σ B H x := fun H1 e Q k =>
  ha H1 e _ fun v xs' B2 H2 t hS hR => by
    cases hS
    exact hb.up ((Stp.go x0 e).trans t) H2 (Ex.refl _) _ fun w j B3 H3 t2 hj hw => by
      obtain ⟨h0, h1⟩ := hx j hj
      obtain ⟨a, vs, h1', h2, h3⟩ := (eL E).up t2.eb hR
      obtain ⟨u, h4, h5⟩ := pget h3 h1
      exact ⟨a, vs, j, u, h1', hw, SqL.of (t2.bh _ _ h2), atI_of h0 h4, k u x B3 H3 (t.trans t2) rfl h5⟩
/-- a list or None -/
theorem es_someL {T : List α → Prop} (h : EvS (eL E) te σ B H T) : EvS (eOp (eL E)) te σ B H (fun o => ∃ x, o = some x ∧ T x) := fun H1 e Q k =>
  h H1 e Q fun v x B2 H2 t hS hR => k v (some x) B2 H2 t ⟨x, rfl, hS⟩ ⟨(by obtain ⟨a, vs, h1, _⟩ := hR; rw [h1]; intro z; cases z), hR⟩
theorem es_isNOp {o : Option α} (x0 : Ex B H) (ha : EvE (eOp E) ta σ B H o) : EvE eB (tOp (fun x y H Q => y = V.non ∧ Q (.bl (decide (x = .non))) H) ta (tC .non)) σ B H o.isNone :=
  es_op x0 ha (es_non x0) fun v w B2 H2 _ hv hw => ⟨_, rfl, fun Q q => by
    cases hw
    refine ⟨rfl, ?_⟩
    cases o with
    | none =>
      have hv : v = .non := hv
      subst hv
      exact q
    | some x =>
      rw [decide_eq_false hv.1]
      exact q⟩
end
end RR
namespace RR
open PySem L2 Evl PyProof.Rows
section
variable {α β : Type} {E : Enc α} {F : Enc β} {te ta tb tc tl : TE} {tt : TT} {σ : L2.St} {B H : Hp} {K : PySem.W.Frag}
/-- a comprehension over a list that is known in part -/
theorem em_lcLS {T : List α → Prop} {p : α → Bool} {Tr : α → β → Prop} {j : Nat} {vs : List Nat} (x0 : Ex B H) (h : EvS (eL E) tl σ B H T) (hz : ∀ xs, T xs → xs.length ≤ 40000)
    (hw : ∀ v, wipe ((wipe σ vs).set j (some v)) vs = wipe σ vs)
    (ht : ∀ xs, T xs → ∀ x v B1 H1, Stp B H B1 H1 → x ∈ xs → E.R B1 v x → EvT tt ((wipe σ vs).set j (some v)) H1 (p x))
    (he : ∀ xs, T xs → ∀ x v B1 H1, Stp B H B1 H1 → x ∈ xs → E.R B1 v x → p x = true → EvS F te ((wipe σ vs).set j (some v)) B1 H1 (Tr x)) :
    EvM F (tLc (iList K tl) (gName j) tt te vs) σ B H (fun ys => ∃ xs, T xs ∧ Paired Tr (xs.filter p) ys) := fun H0 e Q k =>
  h H0 e _ fun v xs B1 H1 t hT hR => by
    obtain ⟨a, ws, rfl, h2, h3⟩ := hR
    have s0 := (Stp.go x0 e).trans t
    have hzx := hz xs hT
    refine ⟨a, rfl, ⟨ws, SqL.of (t.bh _ _ h2)⟩, fun D hD => lc_list (xs := ws) (Lw F Tr p B1 H1 D xs) (lw_start t.bh hD) (fun i H' hi hP => ?_) (fun i w H' hi hP => ?_) (fun H' hP => ?_)⟩
    · obtain ⟨B', acc, ys, s, _⟩ := hP
      exact SqL.of (s.bh _ _ (s.eb _ _ h2))
    · obtain ⟨x, hx, hr⟩ := pgetV h3 hi
      have hm : x ∈ xs := List.mem_of_getElem? hx
      exact ⟨hw w, lw_turn hP hx (by have := (List.getElem?_eq_some_iff.mp hx).1; omega) (fun B' s => ht xs hT x w B' H' (s0.trans s) hm (E.up s.eb hr)) (fun hp B' s => he xs hT x w B' H' (s0.trans s) hm (E.up s.eb hr) hp)⟩
    · obtain ⟨B', acc, ys, s, c, q1, q2, q3⟩ := hP
      rw [pl h3, List.take_length] at q2
      exact k D acc ys B' H' (t.trans s) (fresh_back t.eh hD) c.b c.h ⟨xs, hT, q2⟩ q1
theorem k_pil {X : Cx} {tg e : Expr} {t : TE} (h : X.K = K) (he : PE X e t) : PI X tg e (iList K t) := h ▸ pi_list he
theorem hu65 {k : Nat} {A : Around} (hr : Room k A) : A.units + 65 < cLine := by
  have := hr.un
  omega
theorem some_R {B : Hp} : ∀ {vs : List V} {ns : List Int}, Paired (eI.R B) vs ns → Paired (eO.R B) vs (ns.map some)
  | _, _, .nil => .nil
  | _, _, .cons r t => .cons r (some_R t)
end
end RR
namespace RR
open PySem L2 Evl PyProof.Rows
/-! ### copies of lists: the same things in them -/
def selfV : V → Bool
  | .ref _ => true
  | v => flatB v
theorem eqAt_self {A : Around} {s : Shared} {v : V} {u u' : Value} (r : RelV v u) (r' : RelV v u') (f : selfV v = true) : SeqAt.EqAt A s u u' true := by
  cases v with
  | ref a =>
    cases (show u = Value.ref a from r)
    cases (show u' = Value.ref a from r')
    exact SeqAt.EqAt.same _
  | non => exact eqAt_same r r' f
  | bl b => exact eqAt_same r r' f
  | int i => exact eqAt_same r r' f
  | str z => exact eqAt_same r r' f
  | byt z => exact eqAt_same r r' f
  | flt z => exact eqAt_same r r' f
  | ty z => exact eqAt_same r r' f
/-- the same thing, or lists of copies -/
def Cp (K : PySem.W.Frag) (H : Hp) : Nat → V → V → Prop
  | 0 => fun x y => x = y ∧ selfV x = true
  | n + 1 => fun x y => (x = y ∧ selfV x = true) ∨ ∃ a b xs ys, x = .ref a ∧ y = .ref b ∧ SqL K H a xs ∧ SqL K H b ys ∧ Paired (Cp K H n) xs ys
theorem cps_run {A : Around} {s : Shared} {F : V → V → Prop} (ih : ∀ x y v u, F x y → RelV x v → RelV y u → SeqAt.EqAt A s v u true) {xs ys : List V} (hp : Paired F xs ys) :
    ∀ {us ws : List Value}, Vals xs us → Vals ys ws → ∀ j (h1 : j < us.length) (h2 : j < ws.length), SeqAt.EqAt A s us[j] ws[j] true := by
  induction hp with
  | nil =>
    intro us ws r1 r2 j h1 h2
    cases r1
    exact absurd h1 (Nat.not_lt_zero j)
  | cons h _ k =>
    intro us ws r1 r2 j h1 h2
    cases r1 with
    | cons a1 b1 =>
      cases r2 with
      | cons a2 b2 =>
        cases j with
        | zero => exact ih _ _ _ _ h a1 a2
        | succ j => exact k b1 b2 j (Nat.lt_of_succ_lt_succ h1) (Nat.lt_of_succ_lt_succ h2)
section
variable {X : Cx} {pins : List (Addr × Obj)} {σ : L2.St} {H : Hp} {s : Shared}
theorem cp_lists (I : Inv X pins σ H s) {A : Around} {F : V → V → Prop} (ih : ∀ x y v u, F x y → RelV x v → RelV y u → SeqAt.EqAt A.in1 s v u true) {a b : Addr} {xs ys : List V} (ha : SqL X.K H a xs) (hb : SqL X.K H b ys) (hp : Paired F xs ys) :
    ∃ us ws : Array Value, s.heap.IsList a us ∧ s.heap.IsList b ws ∧ us.size = ws.size ∧ ∀ j (h1 : j < us.size) (h2 : j < ws.size), SeqAt.EqAt A.in1 s us[j] ws[j] true := by
  obtain ⟨us, r1, p1, _⟩ := I.list ha
  obtain ⟨ws, r2, p2, _⟩ := I.list hb
  refine ⟨us.toArray, ws.toArray, p1.isList, p2.isList, ?_, fun j h1 h2 => ?_⟩
  · rw [List.size_toArray, List.size_toArray, ← r1.length, ← r2.length]
    exact Paired.length hp
  · have k := cps_run ih hp r1 r2 j (by simpa using h1) (by simpa using h2)
    simpa using k
theorem all_true (n : Nat) : ((List.range n).all fun _ => true) = true := List.all_eq_true.mpr fun _ _ => rfl
theorem cp_run (I : Inv X pins σ H s) : ∀ (n : Nat) (A : Around), A.units + n < cLine → ∀ (x y : V) (v u : Value), Cp X.K H n x y → RelV x v → RelV y u → SeqAt.EqAt A s v u true
  | 0, _, _, x, y, v, u, h, rx, ry => by
    obtain ⟨rfl, f⟩ := h
    exact eqAt_self rx ry f
  | n + 1, A, hu, x, y, v, u, h, rx, ry => by
    rcases h with ⟨rfl, f⟩ | ⟨a, b, xs, ys, rfl, rfl, ha, hb, hp⟩
    · exact eqAt_self rx ry f
    · cases (show v = Value.ref a from rx)
      cases (show u = Value.ref b from ry)
      by_cases e : a = b
      · subst e
        exact SeqAt.EqAt.same _
      · obtain ⟨us, ws, l1, l2, hsz, he⟩ := cp_lists I (A := A) (cp_run I n A.in1 (by show A.units + 1 + n < cLine; omega)) ha hb hp
        have q := SeqAt.RcAt.lists (e := fun _ => true) l1 l2 hsz (by omega) he
        rw [all_true] at q
        exact SeqAt.EqAt.of_refs e q
end
/-- two lists that are copies, one deep -/
def IsCp (K : PySem.W.Frag) (H : Hp) (x y : V) : Prop := ∃ a b xs ys, x = .ref a ∧ y = .ref b ∧ SqL K H a xs ∧ SqL K H b ys ∧ Paired (Cp K H 1) xs ys
def rCpEq (K : PySem.W.Frag) : R2 := fun x y H Q => IsCp K H x y ∧ Q (.bl true) H
def rCpNe (K : PySem.W.Frag) : R2 := fun x y H Q => IsCp K H x y ∧ Q (.bl false) H
section
variable {X : Cx} {K : PySem.W.Frag}
theorem op_cpEq (hu : X.A.units + 64 < cLine) : OpR X (compareOp .Eq) (rCpEq X.K) := by
  intro pins s σ H x y v u Q I rx ry h
  obtain ⟨⟨a, b, xs, ys, rfl, rfl, ha, hb, hp⟩, q⟩ := h
  cases (show v = Value.ref a from rx)
  cases (show u = Value.ref b from ry)
  obtain ⟨us, ws, l1, l2, hsz, he⟩ := cp_lists I (A := X.A) (cp_run I 1 X.A.in1 (by show X.A.units + 1 + 1 < cLine; omega)) ha hb hp
  have k := SeqAt.RcAt.lists (e := fun _ => true) l1 l2 hsz (show X.A.units < cLine by omega) he
  rw [all_true] at k
  exact k X.prog X.w _ _ ⟨.bl true, H, I, rfl, q⟩
theorem op_cpNe (hu : X.A.units + 64 < cLine) : OpR X (compareOp .NotEq) (rCpNe X.K) := by
  intro pins s σ H x y v u Q I rx ry h
  obtain ⟨⟨a, b, xs, ys, rfl, rfl, ha, hb, hp⟩, q⟩ := h
  cases (show v = Value.ref a from rx)
  cases (show u = Value.ref b from ry)
  obtain ⟨us, ws, l1, l2, hsz, he⟩ := cp_lists I (A := X.A) (cp_run I 1 X.A.in1 (by show X.A.units + 1 + 1 < cLine; omega)) ha hb hp
  have k := SeqAt.RcNeAt.lists (e := fun _ => true) l1 l2 hsz (show X.A.units < cLine by omega) he
  rw [all_true] at k
  exact k X.prog X.w _ _ ⟨.bl false, H, I, rfl, q⟩
theorem k_cpEq (hu : X.A.units + 64 < cLine) (h : X.K = K) : OpR X (compareOp .Eq) (rCpEq K) := h ▸ op_cpEq hu
theorem k_cpNe (hu : X.A.units + 64 < cLine) (h : X.K = K) : OpR X (compareOp .NotEq) (rCpNe K) := h ▸ op_cpNe hu
end
section
variable {α β γ : Type} {E : Enc α} {F : Enc β} {te ta tb : TE} {σ : L2.St} {B H : Hp} {K : PySem.W.Frag}
/-- any list of values, by themselves -/
theorem pV {B : Hp} : ∀ {vs ws : List V}, Paired (eV.R B) vs ws → vs = ws
  | _, _, .nil => rfl
  | _, _, .cons r t => by
    rw [pV t, show _ = _ from r]
theorem pV' {B : Hp} : ∀ vs : List V, Paired (eV.R B) vs vs
  | [] => .nil
  | _ :: r => .cons rfl (pV' r)
theorem cp_self {H : Hp} : ∀ {vs : List V}, (∀ v ∈ vs, selfV v = true) → Paired (Cp K H 0) vs vs
  | [], _ => .nil
  | v :: r, h => .cons ⟨rfl, h v List.mem_cons_self⟩ (cp_self fun w hw => h w (List.mem_cons_of_mem _ hw))
theorem cp_two {H : Hp} {x y : V} {ws zs : List V} (h1 : ∀ v ∈ ws, selfV v = true) (h2 : ∀ v ∈ zs, selfV v = true) (hx : (eL2 (eL eV) (eL eV)).R H x (ws, zs)) (hy : (eL2 (eL eV) (eL eV)).R H y (ws, zs)) : IsCp K H x y := by
  obtain ⟨a, u, w, rfl, ha, ⟨a1, u1, rfl, hu1, p1⟩, ⟨a2, u2, rfl, hu2, p2⟩⟩ := hx
  obtain ⟨b, u', w', rfl, hb, ⟨b1, u1', rfl, hu1', p1'⟩, ⟨b2, u2', rfl, hu2', p2'⟩⟩ := hy
  have e1 := pV p1
  have e2 := pV p2
  have e3 := pV p1'
  have e4 := pV p2'
  subst e1 e2
  subst e3 e4
  exact ⟨a, b, _, _, rfl, rfl, SqL.of ha, SqL.of hb, .cons (.inr ⟨a1, b1, _, _, rfl, rfl, SqL.of hu1, SqL.of hu1', cp_self h1⟩) (.cons (.inr ⟨a2, b2, _, _, rfl, rfl, SqL.of hu2, SqL.of hu2', cp_self h2⟩) .nil)⟩
theorem es_cpNe {ws zs : List V} (x0 : Ex B H) (h1 : ∀ v ∈ ws, selfV v = true) (h2 : ∀ v ∈ zs, selfV v = true) (ha : EvE (eL2 (eL eV) (eL eV)) ta σ B H (ws, zs)) (hb : EvE (eL2 (eL eV) (eL eV)) tb σ B H (ws, zs)) : EvE eB (tOp (rCpNe K) ta tb) σ B H false :=
  es_op x0 ha hb fun v w B2 H2 x2 hv hw => ⟨.bl false, rfl, fun Q q => ⟨cp_two h1 h2 (Enc.up _ x2 hv) (Enc.up _ x2 hw), q⟩⟩
theorem es_cpEq {ws zs : List V} (x0 : Ex B H) (h1 : ∀ v ∈ ws, selfV v = true) (h2 : ∀ v ∈ zs, selfV v = true) (ha : EvE (eL2 (eL eV) (eL eV)) ta σ B H (ws, zs)) (hb : EvE (eL2 (eL eV) (eL eV)) tb σ B H (ws, zs)) : EvE eB (tOp (rCpEq K) ta tb) σ B H true :=
  es_op x0 ha hb fun v w B2 H2 x2 hv hw => ⟨.bl true, rfl, fun Q q => ⟨cp_two h1 h2 (Enc.up _ x2 hv) (Enc.up _ x2 hw), q⟩⟩
/-- a list of values, read as what they stand for -/
theorem es_vR {ws : List V} {xs : List α} (h : EvE (eL eV) te σ B H ws) (hp : Paired (E.R B) ws xs) : EvE (eL E) te σ B H xs := fun H1 e Q k =>
  h H1 e Q fun v ws' B2 H2 t hS ⟨a, us, h1, h2, h3⟩ => k v xs B2 H2 t rfl ⟨a, us, h1, h2, by
    have e1 := pV h3
    subst e1
    subst hS
    exact E.ups t.eb hp⟩
theorem self_th {B : Hp} {v : V} {t : Th} (h : eTh.R B v t) : selfV v = true := by
  cases t with
  | non =>
    have h : v = .non := h
    subst h
    rfl
  | int n =>
    have h : v = .int n := h
    subst h
    rfl
  | no =>
    have h : OddV B v := h
    cases h <;> rfl
theorem self_all {B : Hp} (hE : ∀ v x, E.R B v x → selfV v = true) : ∀ {vs : List V} {xs : List α}, Paired (E.R B) vs xs → ∀ v ∈ vs, selfV v = true
  | _, _, .nil, v, h => by cases h
  | _, _, .cons r t, v, h => by
    rcases List.mem_cons.mp h with q | q
    · subst q
      exact hE _ _ r
    · exact self_all hE t v q
theorem self_r {B : Hp} {v : V} {r : Road} (h : eR.R B v r) : selfV v = true := by
  obtain ⟨a, u, w, z, rfl, _⟩ := h
  rfl
end
/-! ### lists of unlike things -/
section
variable {te : TE} {ar : TA} {σ : L2.St} {B H : Hp} {K : PySem.W.Frag}
def EvTs (ar : TA) (σ : L2.St) (B H : Hp) (n : Nat) : Prop := EvAr ar σ B H (fun B vs => ∃ ts : List Th, ts.length = n ∧ Paired (eTh.R B) vs ts)
theorem ts_nil (x0 : Ex B H) : EvTs tNil σ B H 0 := fun H1 e Q k => k [] B H1 (Stp.refl (x0.trans e)) ⟨[], rfl, .nil⟩
theorem ts_cons {n : Nat} {S : Th → Prop} (x0 : Ex B H) (h : EvS eTh te σ B H S) (hr : EvTs ar σ B H n) : EvTs (tCons te ar) σ B H (n + 1) := fun H1 e Q k =>
  h H1 e _ fun v x B2 H2 t hS hR => by
    have s := (Stp.go x0 e).trans t
    exact hr H2 s.eh _ fun vs B3 H3 t2 ⟨ts, hl, hA⟩ => k (v :: vs) (jn B2 B3) H3 (t.trans (s.join (Ex.refl _) t2)) ⟨x :: ts, by rw [List.length_cons, hl], .cons (Enc.up _ jn_l hR) (Enc.ups _ (jn_r ((t.bh.trans t2.eh)) t2.bh) hA)⟩
theorem em_ts {n : Nat} (h : EvTs ar σ B H n) (hz : n ≤ 100000) : EvM eTh (tLst ar) σ B H (fun ts => ts.length = n) := fun H1 e Q k =>
  h H1 e _ fun vs B2 H2 t ⟨ts, hl, hA⟩ => ⟨sz_of (by rw [pl hA, hl]; exact hz), fun p hp => k p vs ts B2 _ (t.trans (Stp.go t.bh (Ex.new hp))) (fresh_back t.eh hp) (fresh_back t.bh hp) upd_same hl hA⟩
theorem th_c {v : V} {t : Th} (x0 : Ex B H) (h : eTh.R B v t) : EvE eTh (tC v) σ B H t := es_ev x0 ev_c h
theorem th_list {α : Type} {E : Enc α} {S : List α → Prop} (h : EvS (eL E) te σ B H S) : EvE eTh te σ B H .no := EvS.conv h fun B v x _ ⟨a, vs, h1, h2, _⟩ => ⟨.no, rfl, by
  subst h1
  exact OddV.lst h2⟩
theorem th_tup {α β : Type} {E : Enc α} {F : Enc β} {S : α × β → Prop} (h : EvS (e2 E F) te σ B H S) : EvE eTh te σ B H .no := EvS.conv h fun B v x _ ⟨a, u, w, h1, h2, _⟩ => ⟨.no, rfl, by
  subst h1
  exact OddV.tup h2⟩
theorem th_dict (x0 : Ex B H) : EvE eTh tDNewK σ B H .no := fun H1 e Q k p hp => k (.ref p) .no (upd B p (.dK [])) _ (Stp.new (x0.trans e) hp) rfl (OddV.dic upd_same)
end
/-! ### a tuple of what is known, a list of one's own and a number -/
def SpecPL {ι α β : Type} (A : ι → Hp → List V → Prop) (Pre : ι → Prop) (E : Enc α) (F : Enc β) (Post : ι → α → List β → Int → Prop) : Sp := fun vs H Q _ => ∃ (i : ι) (B : Hp), Ex B H ∧ A i B vs ∧ Pre i ∧
  ∀ t v r ws x ys n B2 H2, Stp B H B2 H2 → B2 t = some (.tup [v, .ref r, .int n]) → E.R B2 v x → H r = none → B2 r = none → H2 r = some (.lst ws) → Post i x ys n → Paired (F.R B2) ws ys → Q (.ref t) H2
section
variable {P : Program} {w : World} {K : PySem.W.Frag} {mg : Str → Option Value} {base : Heap}
theorem mk_defPL {ι α β : Type} {A : ι → Hp → List V → Prop} {Pre : ι → Prop} {E1 : Enc α} {F : Enc β} {Post : ι → α → List β → Int → Prop} {x : Str} {st : Stmt} {N ps : List Str} {k : Nat} (F0 : FunAt K mg x st) (S : FnScope N ps (defScope st))
    (bi : ∀ (kV doc pm : Value) (an : Option Addr) (cdv ct : Value) (us : List Value), us.length = ps.length → bindArgs (PySem.W.fnOf x x (defArgs st) (defBody st) (defScope st) .none kV doc pm an cdv ct) ⟨us, []⟩ = pure (ps.zip us))
    (hl : ∀ i, LenA ps.length (A i))
    (hbody : ∀ (f : Addr) (cdv : Value) (A0 : Around) (outer : List Env) (s : Shared) (E : XK) (i : ι) (B H : Hp) (vs : List V) (Q : VK), Room k (A0.deeper (envOfC x (defScope st) s.heap.objs.size f cdv)) → Ex B H → A i B vs → Pre i →
      (∀ t v r ws x ys n B2 H2, Stp B H B2 H2 → B2 t = some (.tup [v, .ref r, .int n]) → E1.R B2 v x → H r = none → B2 r = none → H2 r = some (.lst ws) → Post i x ys n → Paired (F.R B2) ws ys → Q (.ref t) H2) →
      ∃ t, PSs (cxOf CX0 P w K mg base N x (defScope st) f cdv A0 outer s H E).nox (defBody st) t ∧ t { nx := fun _ H' => Q .non H', rt := Q } (start N vs) H) : DefOk P w K mg base (k + 1) x ps (SpecPL A Pre E1 F Post) := by
  obtain ⟨f, fd, F1, hm⟩ := F0
  refine ⟨f, fd, ?_, hm, F1.kp, F1.binds (ps := ps) bi⟩
  refine F1.ok S (fun vs H Q E h => ?_) (fun cdv A0 outer s H vs Q E hr h => ?_)
  · obtain ⟨i, B, _, hA, _⟩ := h
    exact hl i B vs hA
  · obtain ⟨i, B, x0, hA, hp, q⟩ := h
    exact hbody f cdv A0 outer s E i B H vs Q hr x0 hA hp q
theorem q_setPL {ι α β : Type} {A : ι → Hp → List V → Prop} {Pre : ι → Prop} {E1 : Enc α} {F : Enc β} {Post : ι → α → List β → Int → Prop} {X : XK} {ar : TA} {σ : L2.St} {B H : Hp} {D : Ends} {j : Nat} {tz : TS} (i : ι) (h : EvAr ar σ B H (A i)) (p : Pre i)
    (k : ∀ t v r ws x ys n B1 H1, Stp B H B1 H1 → B1 t = some (.tup [v, .ref r, .int n]) → E1.R B1 v x → H r = none → B1 r = none → H1 r = some (.lst ws) → Post i x ys n → Paired (F.R B1) ws ys → tz D (σ.set j (some (.ref t))) H1) :
    tSeq (tAsg (tCall (SpecPL A Pre E1 F Post) [] X ar) (gName j)) tz D σ H :=
  h H (Ex.refl _) _ fun vs B2 H2 t hA => ⟨i, B2, t.bh, by rw [List.append_nil]; exact hA, p, fun t' v r ws x ys n B3 H3 t2 ht hv nr br hr hP hF => k t' v r ws x ys n B3 H3 (t.trans t2) ht hv (fresh_back t.eh nr) br hr hP hF⟩
end
section
variable {α : Type} {E : Enc α} {te ta tb : TE} {σ : L2.St} {B H B0 H0 : Hp} {K : PySem.W.Frag} {D : Ends} {i : Nat} {S : α → Prop}
/-- xs[j] = e, a new thing -/
theorem c_setLY {l : Addr} {xs : List V} {j : Nat} (c : Cell H0 B H l (.lst xs)) (s0 : Stp B0 H0 B H) (hv : EvS E te σ B H S) (ho : σ[i]? = some (some (.ref l))) (hj : ∀ B1 H1, Ex B B1 → Ex B1 H1 → EvE eI tb σ B1 H1 (j : Int)) (hz : j < xs.length)
    (k : ∀ v x B1 H1, Stp B0 H0 B1 H1 → Ex B B1 → Cell H0 B1 H1 l (.lst (xs.set j v)) → (∀ p o, p ≠ l → Cell H0 B H p o → Cell H0 B1 H1 p o) → S x → E.R B1 v x → D.nx σ H1) : tAsg te (gSub (tVar i) tb rSetL) D σ H :=
  hv H (Ex.refl _) _ fun v x B1 H1 s hS hR => ⟨.ref l, ho, ev_sI (hj B1 H1 s.eb s.bh) H1 (Ex.refl _) _ fun H2 e => ⟨l, xs, (j : Int), j, rfl, rfl, e _ _ (s.eh _ _ c.h), ixN_nat hz,
    k v x B1 _ (((c.up s).go e).mut ((s0.trans s).goH e)) s.eb ((c.up s).go e).same (fun p o ne d => ((d.up s).go e).other ne) hS hR⟩⟩
end
end RR
namespace RR
open PySem L2 Evl PyProof.Rows
/-! ### a tree's list holds None and whole numbers alone -/
theorem th_os : ∀ {tr : List Th}, (∀ t ∈ tr, t.isNon = true ∨ t.isInt = true) → ∃ os : List (Option Int), tr = os.map thO
  | [], _ => ⟨[], rfl⟩
  | t :: r, h => by
    obtain ⟨os, e⟩ := th_os (tr := r) fun u hu => h u (List.mem_cons_of_mem _ hu)
    have ht := h t List.mem_cons_self
    cases t with
    | non => exact ⟨none :: os, by rw [e]; rfl⟩
    | int n => exact ⟨some n :: os, by rw [e]; rfl⟩
    | no => rcases ht with q | q <;> cases q
theorem thO_inv {B : Hp} {v : V} {o : Option Int} (h : eTh.R B v (thO o)) : eO.R B v o := by
  cases o with
  | none => exact h
  | some n => exact h
theorem thOs_inv {B : Hp} : ∀ {vs : List V} {os : List (Option Int)}, Paired (eTh.R B) vs (os.map thO) → Paired (eO.R B) vs os
  | [], [], _ => .nil
  | v :: vs, o :: os, h => by
    cases h with
    | cons r t => exact .cons (thO_inv r) (thOs_inv t)
  | [], _ :: _, h => by cases h
  | _ :: _, [], h => by cases h
theorem istree_os {m root : Int} {rs : List Road} {tr : List Th} (h : IsTree m rs root tr) (h0 : 0 ≤ root) : ∃ os : List (Option Int), tr = os.map thO ∧ ∀ n, some n ∈ os → 0 ≤ n ∧ ∃ r, rs[n.toNat]? = some r := by
  have at_ : ∀ {i : Nat} {t : Th}, tr[i]? = some t → t = .non ∨ ∃ n r, t = .int n ∧ 0 ≤ n ∧ rs[n.toNat]? = some r := fun {i t} hi => by
    have hl := (List.getElem?_eq_some_iff.mp hi).1
    have := h.len
    by_cases e : (i : Int) = root
    · have hr := h.rt
      rw [← e, Int.toNat_natCast, hi] at hr
      exact .inl (Option.some.inj hr)
    · obtain ⟨n, r, k1, k2, k3, _⟩ := h.inn i (by omega) (by omega) e
      rw [Int.toNat_natCast, hi] at k1
      exact .inr ⟨n, r, Option.some.inj k1, k2, k3⟩
  obtain ⟨os, e⟩ := th_os (tr := tr) fun t ht => by
    obtain ⟨i, hi⟩ := List.mem_iff_getElem?.mp ht
    rcases at_ hi with q | ⟨n, r, q, _⟩
    · rw [q]
      exact .inl rfl
    · rw [q]
      exact .inr rfl
  refine ⟨os, e, fun n hn => ?_⟩
  obtain ⟨i, hi⟩ := List.mem_iff_getElem?.mp hn
  have h9 : tr[i]? = some (.int n) := by
    rw [e, List.getElem?_map, hi]
    rfl
  rcases at_ h9 with q | ⟨n', r, q, k1, k2⟩
  · cases q
  · cases q
    exact ⟨k1, r, k2⟩
end RR
namespace RR
open PySem L2 Evl PyProof.Rows L2H RRH
def topS (i : Nat) : Stmt := PySem.Challenge.pw_rootroads_k05_ways_in_a_tree.main.body.getD i (.Pass ⟨0, 0, 0, 0⟩)
abbrev s_is_whole : Stmt := topS 9
abbrev N_is_whole : List Str := ["thing"]
theorem sc_is_whole : FnScope N_is_whole ["thing"] (defScope s_is_whole) := ⟨rfl, rfl, rfl, by decide +kernel, rfl, by decide +kernel, by decide +kernel⟩
abbrev s_is_place : Stmt := topS 10
abbrev N_is_place : List Str := ["many", "thing"]
theorem sc_is_place : FnScope N_is_place ["many", "thing"] (defScope s_is_place) := ⟨rfl, rfl, rfl, by decide +kernel, rfl, by decide +kernel, by decide +kernel⟩
abbrev s_is_road : Stmt := topS 11
abbrev N_is_road : List Str := ["many", "thing"]
theorem sc_is_road : FnScope N_is_road ["many", "thing"] (defScope s_is_road) := ⟨rfl, rfl, rfl, by decide +kernel, rfl, by decide +kernel, by decide +kernel⟩
abbrev s_checked : Stmt := topS 12
abbrev N_checked : List Str := ["many", "roads", "road"]
theorem sc_checked : FnScope N_checked ["many", "roads"] (defScope s_checked) := ⟨rfl, rfl, rfl, by decide +kernel, rfl, by decide +kernel, by decide +kernel⟩
abbrev s_need_place : Stmt := topS 13
abbrev N_need_place : List Str := ["many", "place"]
theorem sc_need_place : FnScope N_need_place ["many", "place"] (defScope s_need_place) := ⟨rfl, rfl, rfl, by decide +kernel, rfl, by decide +kernel, by decide +kernel⟩
abbrev s_comes_in : Stmt := topS 15
abbrev N_comes_in : List Str := ["roads", "thing", "place"]
theorem sc_comes_in : FnScope N_comes_in ["roads", "thing", "place"] (defScope s_comes_in) := ⟨rfl, rfl, rfl, by decide +kernel, rfl, by decide +kernel, by decide +kernel⟩
abbrev s_hangs_together : Stmt := topS 16
abbrev N_hangs_together : List Str := ["roads", "root", "tree", "safe", "place", "row", "here", "one"]
theorem sc_hangs_together : FnScope N_hangs_together ["roads", "root", "tree"] (defScope s_hangs_together) := ⟨rfl, rfl, rfl, by decide +kernel, rfl, by decide +kernel, by decide +kernel⟩
abbrev s_stands : Stmt := topS 17
abbrev N_stands : List Str := ["many", "roads", "root", "tree", "place"]
theorem sc_stands : FnScope N_stands ["many", "roads", "root", "tree"] (defScope s_stands) := ⟨rfl, rfl, rfl, by decide +kernel, rfl, by decide +kernel, by decide +kernel⟩
abbrev s_way : Stmt := topS 18
abbrev N_way : List Str := ["many", "roads", "root", "tree", "place", "found"]
theorem sc_way : FnScope N_way ["many", "roads", "root", "tree", "place"] (defScope s_way) := ⟨rfl, rfl, rfl, by decide +kernel, rfl, by decide +kernel, by decide +kernel⟩
abbrev s__law_cell_at : Stmt := topS 20
abbrev N__law_cell_at : List Str := ["_law_script", "_law_k"]
theorem sc__law_cell_at : FnScope N__law_cell_at ["_law_script", "_law_k"] (defScope s__law_cell_at) := ⟨rfl, rfl, rfl, by decide +kernel, rfl, by decide +kernel, by decide +kernel⟩
abbrev s__law_mixed : Stmt := topS 21
abbrev N__law_mixed : List Str := ["_law_cell", "_law_k"]
theorem sc__law_mixed : FnScope N__law_mixed ["_law_cell", "_law_k"] (defScope s__law_mixed) := ⟨rfl, rfl, rfl, by decide +kernel, rfl, by decide +kernel, by decide +kernel⟩
abbrev s__law_road : Stmt := topS 22
abbrev N__law_road : List Str := ["_law_cell", "_law_many_here", "_law_start", "_law_end"]
theorem sc__law_road : FnScope N__law_road ["_law_cell", "_law_many_here"] (defScope s__law_road) := ⟨rfl, rfl, rfl, by decide +kernel, rfl, by decide +kernel, by decide +kernel⟩
abbrev s__law_many : Stmt := topS 23
abbrev N__law_many : List Str := ["_law_cell"]
theorem sc__law_many : FnScope N__law_many ["_law_cell"] (defScope s__law_many) := ⟨rfl, rfl, rfl, by decide +kernel, rfl, by decide +kernel, by decide +kernel⟩
abbrev s__law_built : Stmt := topS 24
abbrev N__law_built : List Str := ["_law_script", "_law_many_here", "_law_root", "_law_rows", "_law_k", "_law_number", "_law_tree", "_law_more", "_law_cut", "_law_roads", "_law_place", "_law_cell"]
theorem sc__law_built : FnScope N__law_built ["_law_script", "_law_many_here", "_law_root"] (defScope s__law_built) := ⟨rfl, rfl, rfl, by decide +kernel, rfl, by decide +kernel, by decide +kernel⟩
abbrev s__law_way : Stmt := topS 25
abbrev N__law_way : List Str := ["_law_many_here", "_law_roads", "_law_root", "_law_tree", "_law_place", "_law_found", "_law_turn", "_law_one"]
theorem sc__law_way : FnScope N__law_way ["_law_many_here", "_law_roads", "_law_root", "_law_tree", "_law_place"] (defScope s__law_way) := ⟨rfl, rfl, rfl, by decide +kernel, rfl, by decide +kernel, by decide +kernel⟩
abbrev s__law_ways : Stmt := topS 26
abbrev N__law_ways : List Str := ["_law_many_here", "_law_roads", "_law_root", "_law_tree", "_law_found", "_law_place"]
theorem sc__law_ways : FnScope N__law_ways ["_law_many_here", "_law_roads", "_law_root", "_law_tree"] (defScope s__law_ways) := ⟨rfl, rfl, rfl, by decide +kernel, rfl, by decide +kernel, by decide +kernel⟩
abbrev s__law_refused : Stmt := topS 27
abbrev N__law_refused : List Str := ["_law_many_here", "_law_roads", "_law_root", "_law_tree", "_law_place", "e"]
theorem sc__law_refused : FnScope N__law_refused ["_law_many_here", "_law_roads", "_law_root", "_law_tree", "_law_place"] (defScope s__law_refused) := ⟨rfl, rfl, rfl, by decide +kernel, rfl, by decide +kernel, by decide +kernel⟩
abbrev s_law : Stmt := topS 28
abbrev N_law : List Str := ["_law_script", "_law_many_here", "_law_root", "_law_pair", "_law_roads", "_law_tree", "_law_cell", "_law_at", "_law_more", "_law_new", "_law_here", "_law_place", "_law_due", "_law_handed", "_law_found", "_law_one", "_law_number"]
theorem sc_law : FnScope N_law ["_law_script"] (defScope s_law) := ⟨rfl, rfl, rfl, by decide +kernel, rfl, by decide +kernel, by decide +kernel⟩
structure Txt (K : PySem.W.Frag) (mg : Str → Option Value) : Prop where
  b_ValueError : mg "ValueError" = none
  b_bool : mg "bool" = none
  b_int : mg "int" = none
  b_isinstance : mg "isinstance" = none
  b_len : mg "len" = none
  b_list : mg "list" = none
  b_range : mg "range" = none
  b_tuple : mg "tuple" = none
  c_MOST_PLACES : ∃ t, mg "MOST_PLACES" = some (.int 12 t)
  c_MOST_ROADS : ∃ t, mg "MOST_ROADS" = some (.int 60 t)
  c_DEAREST : ∃ t, mg "DEAREST" = some (.int 10000000000000000000000000000000000000000 t)
section
variable {P : Program} {w : World} {K : PySem.W.Frag} {mg : Str → Option Value} {base : Heap} {C_BadTree C_RoadError : Addr}

abbrev sp_cell (K : PySem.W.Frag) : Sp := Spec (ar2 (eScr K) eI) (fun i => 0 ≤ i.2) eI (fun i y => y = cellM i.1 i.2)
theorem d__law_cell_at (F0 : FunAt K mg "_law_cell_at" s__law_cell_at) (T : Txt K mg)  : DefOk P w K mg base 1 "_law_cell_at" ["_law_script", "_law_k"] (sp_cell K) := by
  refine mk_def (k := 0) F0 sc__law_cell_at (fun _ _ _ _ _ _ us hl => match us, hl with | [_, _], _ => rfl) (fun _ => (lenC (lenC lenN))) ?_
  intro f cdv A0 outer s E i B H vs Q hr x0 hA hp q
  obtain ⟨v0, _, _, rfl, rfl, h0, v1, _, _, rfl, rfl, h1, rfl⟩ := hA
  obtain ⟨y0, y1⟩ := i
  (try dsimp only at h0); (try dsimp only at h1); (try dsimp only at hp); (try dsimp only at q)
  refine ⟨_, (pss_cons (ps_if (pt_cmpR op_lt (pv 1) (pe_callB (k_len (K := K) rfl) (by rfl) T.b_len (by decide +kernel) (pa_cons (pv 0) pa_nil)) (nomark _)) (pss_one (ps_ret (pe_ix (k_ixl (K := K) rfl) (pv 0) (pv 1) (fun _ _ => rfl)))) pss_nil)
      (pss_one (ps_ret pe_int))), ?_⟩
  cases h1
  refine q_when (et_sT (es_opB x0 (es_varI (i := 1) x0 rfl) (es_lenS x0 (es_var x0 rfl h0)))) (fun hb H1 e => ?_) (fun hb H1 e => ?_)
  · have hlt : y1 < (y0.length : Int) := of_decide_eq_true hb
    have hn : y1.toNat < y0.length := by omega
    have xz := x0.trans e
    refine c_ret (Stp.go x0 e) (es_ixS xz (es_var xz rfl h0) (es_varI (i := 1) xz rfl) hp (List.getElem?_eq_getElem hn)) fun w y B2 H2 s hy hR => q w y B2 H2 s ?_ hR
    rw [hy]
    unfold cellM
    rw [if_pos hlt, List.getD_eq_getElem?_getD, List.getElem?_eq_getElem hn]
    rfl
  · have hlt : ¬ y1 < (y0.length : Int) := of_decide_eq_false hb
    refine c_ret (Stp.go x0 e) (es_int (x0.trans e)) fun w y B2 H2 s hy hR => q w y B2 H2 s ?_ hR
    rw [hy]
    unfold cellM
    rw [if_neg hlt]

abbrev sp_mixed : Sp := Spec (ar2 eI eI) (fun i => -1000 ≤ i.2 ∧ i.2 ≤ 1000) eI (fun i y => y = mixedM i.1 i.2)
theorem d__law_mixed (F0 : FunAt K mg "_law_mixed" s__law_mixed) (T : Txt K mg)  : DefOk P w K mg base 1 "_law_mixed" ["_law_cell", "_law_k"] sp_mixed := by
  refine mk_def (k := 0) F0 sc__law_mixed (fun _ _ _ _ _ _ us hl => match us, hl with | [_, _], _ => rfl) (fun _ => (lenC (lenC lenN))) ?_
  intro f cdv A0 outer s E i B H vs Q hr x0 hA hp q
  obtain ⟨v0, _, _, rfl, rfl, h0, v1, _, _, rfl, rfl, h1, rfl⟩ := hA
  obtain ⟨y0, y1⟩ := i
  (try dsimp only at h0); (try dsimp only at h1); (try dsimp only at hp); (try dsimp only at q)
  refine ⟨_, (pss_one (ps_ret (pe_op op_mod (pe_op op_add (pe_op op_add (pe_op op_add (pe_op op_mul (pv 0) pe_int) (pe_op op_mul (pe_op op_mul (pv 1) (pv 1)) pe_int)) (pe_op op_mul (pv 1) pe_int)) pe_int) pe_int))), ?_⟩
  cases h0
  cases h1
  exact c_ret (Stp.refl x0) (es_opC x0 (es_opI x0 (es_opI x0 (es_opI x0 (es_opC x0 (es_varI x0 rfl) (es_int x0) (.inr ⟨by decide, by decide⟩)) (es_opC x0 (es_opC x0 (es_varI x0 rfl) (es_varI x0 rfl) (.inl ⟨by omega, by omega⟩)) (es_int x0) (.inr ⟨by decide, by decide⟩))) (es_opC x0 (es_varI x0 rfl) (es_int x0) (.inr ⟨by decide, by decide⟩))) (es_int x0)) (es_int x0) (by first | (show (0 : Int) < _; omega) | (show (0 : Int) < _; decide +kernel))) q

abbrev sp_whole : Sp := Spec (ar1 eI) (fun _ => True) eB (fun _ y => y = true)
theorem d_is_whole (F0 : FunAt K mg "is_whole" s_is_whole) (T : Txt K mg)  : DefOk P w K mg base 1 "is_whole" ["thing"] sp_whole := by
  refine mk_def (k := 0) F0 sc_is_whole (fun _ _ _ _ _ _ us hl => match us, hl with | [_], _ => rfl) (fun _ => (lenC lenN)) ?_
  intro f cdv A0 outer s E i B H vs Q hr x0 hA hp q
  obtain ⟨v0, y0, _, rfl, rfl, h0, rfl⟩ := hA
  refine ⟨_, (pss_one (ps_ret (pe_and (pe_callB (k_isi (K := K) rfl) (by rfl) T.b_isinstance (by decide +kernel) (pa_cons (pv 0) (pa_cons (pe_bltn (v := .ty "int") (u := .type "int") (by rfl) T.b_int (by decide +kernel) rfl) pa_nil))) (pe_one (pe_not (pe_callB (k_isi (K := K) rfl) (by rfl) T.b_isinstance (by decide +kernel) (pa_cons (pv 0) (pa_cons (pe_bltn (v := .ty "bool") (u := .type "bool") (by rfl) T.b_bool (by decide +kernel) rfl) pa_nil)))))))), ?_⟩
  cases h0
  exact c_ret (Stp.refl x0) (es_andV x0 (es_isiI x0 (es_varI x0 rfl) k_ii) fun _ => es_notV x0 (es_isiI x0 (es_varI x0 rfl) k_ib)) fun w y B2 H2 s hy hR => q w y B2 H2 s hy hR

abbrev sp_place : Sp := Spec (ar2 eI eI) (fun _ => True) eB (fun i y => y = (decide (0 ≤ i.2) && decide (i.2 < i.1)))
theorem d_is_place (F0 : FunAt K mg "is_place" s_is_place) (T : Txt K mg) (G_is_whole : DefOk P w K mg base 1 "is_whole" ["thing"] sp_whole) : DefOk P w K mg base 2 "is_place" ["many", "thing"] sp_place := by
  refine mk_def (k := 1) F0 sc_is_place (fun _ _ _ _ _ _ us hl => match us, hl with | [_, _], _ => rfl) (fun _ => (lenC (lenC lenN))) ?_
  intro f cdv A0 outer s E i B H vs Q hr x0 hA hp q
  obtain ⟨v0, _, _, rfl, rfl, h0, v1, _, _, rfl, rfl, h1, rfl⟩ := hA
  obtain ⟨y0, y1⟩ := i
  (try dsimp only at h0); (try dsimp only at h1); (try dsimp only at hp); (try dsimp only at q)
  refine ⟨_, (pss_one (ps_ret (pe_and (pe_callD G_is_whole (hr.mono (by decide)) (by rfl) (pa_cons (pv 1) pa_nil)) (pe_one (pe_chain op_le op_lt pe_int (pv 1) (pv 0)))))), ?_⟩
  cases h0
  cases h1
  refine c_ret (Stp.refl x0) (es_andV (a := true) x0 (es_call y1 x0 (ea_c x0 mono_aN (es_varI x0 rfl) (ea_n x0)) True.intro) fun _ => (es_chain x0 (es_int x0) (es_varI x0 rfl) (es_varI x0 rfl) (fun v w B2 H2 hv hw Q q => ⟨_, _, hv, hw, q⟩) (fun v w B2 H2 hv hw Q q => ⟨_, _, hv, hw, q⟩))) fun w y B2 H2 s hy hR => q w y B2 H2 s ?_ hR
  rw [hy]
  rfl

abbrev sp_isroad : Sp := Spec (ar2 eI eR) (fun i => OkR i.1 i.2) eB (fun _ y => y = true)
theorem d_is_road (F0 : FunAt K mg "is_road" s_is_road) (T : Txt K mg) (G_is_whole : DefOk P w K mg base 1 "is_whole" ["thing"] sp_whole) (G_is_place : DefOk P w K mg base 2 "is_place" ["many", "thing"] sp_place) : DefOk P w K mg base 3 "is_road" ["many", "thing"] sp_isroad := by
  refine mk_def (k := 2) F0 sc_is_road (fun _ _ _ _ _ _ us hl => match us, hl with | [_, _], _ => rfl) (fun _ => (lenC (lenC lenN))) ?_
  intro f cdv A0 outer s E i B H vs Q hr x0 hA hp q
  obtain ⟨v0, _, _, rfl, rfl, h0, v1, _, _, rfl, rfl, h1, rfl⟩ := hA
  obtain ⟨y0, y1⟩ := i
  (try dsimp only at h0); (try dsimp only at h1); (try dsimp only at hp); (try dsimp only at q)
  refine ⟨_, (pss_cons (ps_if (pw_or (pt_not (pt_val (pe_callB (k_isi (K := K) rfl) (by rfl) T.b_isinstance (by decide +kernel) (pa_cons (pv 1) (pa_cons (pe_bltn (v := .ty "tuple") (u := .type "tuple") (by rfl) T.b_tuple (by decide +kernel) rfl) pa_nil))))) (pw_or1 (pt_cmpR op_ne (pe_callB (k_len (K := K) rfl) (by rfl) T.b_len (by decide +kernel) (pa_cons (pv 1) pa_nil)) pe_int (nomark _)))).pt (pss_one (ps_ret pe_bl)) pss_nil)
      (pss_cons (ps_if (pw_or (pt_not (pt_val (pe_callD G_is_place (hr.mono (by decide)) (by rfl) (pa_cons (pv 0) (pa_cons (pe_ix (k_ixt (K := K) rfl) (pv 1) pe_int (fun _ _ => rfl)) pa_nil))))) (pw_or (pt_not (pt_val (pe_callD G_is_place (hr.mono (by decide)) (by rfl) (pa_cons (pv 0) (pa_cons (pe_ix (k_ixt (K := K) rfl) (pv 1) pe_int (fun _ _ => rfl)) pa_nil))))) (pw_or1 (pt_cmpR op_eq (pe_ix (k_ixt (K := K) rfl) (pv 1) pe_int (fun _ _ => rfl)) (pe_ix (k_ixt (K := K) rfl) (pv 1) pe_int (fun _ _ => rfl)) (nomark _))))).pt (pss_one (ps_ret pe_bl)) pss_nil)
      (pss_one (ps_ret (pe_and (pe_callD G_is_whole (hr.mono (by decide)) (by rfl) (pa_cons (pe_ix (k_ixt (K := K) rfl) (pv 1) pe_int (fun _ _ => rfl)) pa_nil)) (pe_one (pe_chain op_le op_lt pe_int (pe_ix (k_ixt (K := K) rfl) (pv 1) pe_int (fun _ _ => rfl)) (pe_gI (by rfl) T.c_DEAREST)))))))), ?_⟩
  cases h0
  obtain ⟨k1, k2, k3, k4, k5, k6, k7⟩ := hp
  refine q_when (et_or (et_not (et_sB (es_isi3 x0 (es_var x0 rfl h1) k_tt))) fun _ => et_sT (es_neI x0 (es_len3 x0 (es_var x0 rfl h1)) (es_int x0))) (fun hb => by cases hb) (fun _ H1 e1 => ?_)
  refine q_when (et_or (et_not (et_sB (es_call (y0, y1.1) (x0.trans e1) (ea_c (x0.trans e1) (mono_aC mono_aN) (es_varI (x0.trans e1) rfl) (ea_c (x0.trans e1) mono_aN (es_30 (x0.trans e1) (es_var (x0.trans e1) rfl h1)) (ea_n (x0.trans e1)))) True.intro))) fun _ => et_or (et_not (et_sB (es_call (y0, y1.2.1) (x0.trans e1) (ea_c (x0.trans e1) (mono_aC mono_aN) (es_varI (x0.trans e1) rfl) (ea_c (x0.trans e1) mono_aN (es_31 (x0.trans e1) (es_var (x0.trans e1) rfl h1)) (ea_n (x0.trans e1)))) True.intro))) fun _ => et_sT (es_eqI (x0.trans e1) (es_30 (x0.trans e1) (es_var (x0.trans e1) rfl h1)) (es_31 (x0.trans e1) (es_var (x0.trans e1) rfl h1)))) (fun hb => ?_) (fun _ H2 e2 => ?_)
  · simp [k1, k2, k3, k4, k5] at hb
  refine c_ret ((Stp.go x0 e1).goH e2) (es_andV (a := true) ((x0.trans e1).trans e2) (es_call y1.2.2 ((x0.trans e1).trans e2) (ea_c ((x0.trans e1).trans e2) mono_aN (es_32 ((x0.trans e1).trans e2) (es_var ((x0.trans e1).trans e2) rfl h1)) (ea_n ((x0.trans e1).trans e2))) True.intro) fun _ => (es_chain ((x0.trans e1).trans e2) (es_int ((x0.trans e1).trans e2)) (es_32 ((x0.trans e1).trans e2) (es_var ((x0.trans e1).trans e2) rfl h1)) (es_int ((x0.trans e1).trans e2)) (fun v w B2 H2 hv hw Q q => ⟨_, _, hv, hw, q⟩) (fun v w B2 H2 hv hw Q q => ⟨_, _, hv, hw, q⟩))) fun w y B2 H3 s hy hR => q w y B2 H3 s ?_ hR
  rw [hy, decide_eq_true k6, decide_eq_true k7]
  rfl

abbrev sp_checked : Sp := Spec (ar2 eI (eL eR)) (fun i => Net i.1 i.2) eO (fun _ y => y = none)
theorem d_checked (F0 : FunAt K mg "checked" s_checked) (T : Txt K mg) (G_is_whole : DefOk P w K mg base 1 "is_whole" ["thing"] sp_whole) (G_is_road : DefOk P w K mg base 3 "is_road" ["many", "thing"] sp_isroad) : DefOk P w K mg base 4 "checked" ["many", "roads"] sp_checked := by
  refine mk_def (k := 3) F0 sc_checked (fun _ _ _ _ _ _ us hl => match us, hl with | [_, _], _ => rfl) (fun _ => (lenC (lenC lenN))) ?_
  intro f cdv A0 outer s E i B H vs Q hr x0 hA hp q
  obtain ⟨v0, _, _, rfl, rfl, h0, v1, _, _, rfl, rfl, h1, rfl⟩ := hA
  obtain ⟨y0, y1⟩ := i
  (try dsimp only at h0); (try dsimp only at h1); (try dsimp only at hp); (try dsimp only at q)
  refine ⟨_, (pss_cons (ps_if (pw_or (pt_not (pt_val (pe_callD G_is_whole (hr.mono (by decide)) (by rfl) (pa_cons (pv 0) pa_nil)))) (pw_or1 (pt_not (pt_chain op_le op_le pe_int (pv 0) (pe_gI (by rfl) T.c_MOST_PLACES))))).pt (pss_one ps_never) pss_nil)
      (pss_cons (ps_if (pw_or (pt_not (pt_val (pe_callB (k_isi (K := K) rfl) (by rfl) T.b_isinstance (by decide +kernel) (pa_cons (pv 1) (pa_cons (pe_bltn (v := .ty "list") (u := .type "list") (by rfl) T.b_list (by decide +kernel) rfl) pa_nil))))) (pw_or1 (pt_cmpR op_gt (pe_callB (k_len (K := K) rfl) (by rfl) T.b_len (by decide +kernel) (pa_cons (pv 1) pa_nil)) (pe_gI (by rfl) T.c_MOST_ROADS) (nomark _)))).pt (pss_one ps_never) pss_nil)
      (pss_one (ps_for PassesOwn.never rfl (pi_list (pv 1)) (pg_name (i := 2) sc_checked.nd rfl (by first | exact Or.inl rfl | exact Or.inr rfl)) (pss_one (ps_if (pt_not (pt_val (pe_callD G_is_road (hr.mono (by decide)) (by rfl) (pa_cons (pv 0) (pa_cons (pv 2) pa_nil))))) (pss_one ps_never) pss_nil)))))), ?_⟩
  cases h0
  have hlo := hp.lo
  have hhi := hp.hi
  have hlen := hp.len
  refine q_when (et_or (et_not (et_sB (es_call y0 x0 (ea_c x0 mono_aN (es_varI x0 rfl) (ea_n x0)) True.intro))) fun _ => et_not (et_sT (es_chain x0 (es_int x0) (es_varI x0 rfl) (es_int x0) (fun v w B2 H2 hv hw Q q => ⟨_, _, hv, hw, q⟩) (fun v w B2 H2 hv hw Q q => ⟨_, _, hv, hw, q⟩)))) (fun hb => ?_) (fun _ H1 e1 => ?_)
  · simp at hb
    omega
  refine q_when (et_or (et_not (et_sB (es_isiL (x0.trans e1) (es_var (x0.trans e1) rfl h1) k_ll))) fun _ => et_sT (es_opB (x0.trans e1) (es_lenL (x0.trans e1) (es_var (x0.trans e1) rfl h1)) (es_int (x0.trans e1)))) (fun hb => ?_) (fun _ H2 e2 => ?_)
  · simp at hb
    omega
  have s0 := (Stp.go x0 e1).goH e2
  refine c_forE s0.bh ⟨_, ev_var rfl, h1⟩ (fun i σ' H' => ∃ a, σ' = [some (.int y0), some v1, a] ∧ Stp B H B H') (fun H3 e3 => ⟨none, rfl, s0.goH e3⟩) (fun i σ' H' ⟨_, _, s⟩ => s.bh) (fun i r v σ' H' hi hv w => ?_) (fun σ' H' w => ?_)
  · obtain ⟨a, rfl, s⟩ := w
    have hr : OkR y0 r := hp.ok r (List.mem_of_getElem? hi)
    exact s_when (et_not (et_sB (es_call (y0, r) s.bh (ea_c s.bh (mono_aC mono_aN) (es_varI s.bh rfl) (ea_c s.bh mono_aN (es_var s.bh rfl hv) (ea_n s.bh))) hr))) (fun hb => by cases hb) fun _ H5 e5 => ⟨_, rfl, s.goH e5⟩
  · obtain ⟨a, rfl, s⟩ := w
    exact q .non none B H' s rfl rfl

abbrev sp_need : Sp := Spec (ar2 eI eI) (fun i => 0 ≤ i.2 ∧ i.2 < i.1) eO (fun _ y => y = none)
theorem d_need_place (F0 : FunAt K mg "need_place" s_need_place) (T : Txt K mg) (G_is_place : DefOk P w K mg base 2 "is_place" ["many", "thing"] sp_place) : DefOk P w K mg base 3 "need_place" ["many", "place"] sp_need := by
  refine mk_def (k := 2) F0 sc_need_place (fun _ _ _ _ _ _ us hl => match us, hl with | [_, _], _ => rfl) (fun _ => (lenC (lenC lenN))) ?_
  intro f cdv A0 outer s E i B H vs Q hr x0 hA hp q
  obtain ⟨v0, _, _, rfl, rfl, h0, v1, _, _, rfl, rfl, h1, rfl⟩ := hA
  obtain ⟨y0, y1⟩ := i
  (try dsimp only at h0); (try dsimp only at h1); (try dsimp only at hp); (try dsimp only at q)
  refine ⟨_, (pss_one (ps_if (pt_not (pt_val (pe_callD G_is_place (hr.mono (by decide)) (by rfl) (pa_cons (pv 0) (pa_cons (pv 1) pa_nil))))) (pss_one ps_never) pss_nil)), ?_⟩
  cases h0
  cases h1
  exact s_when (et_not (et_sB (es_call (y0, y1) x0 (ea_c x0 (mono_aC mono_aN) (es_varI x0 rfl) (ea_c x0 mono_aN (es_varI x0 rfl) (ea_n x0))) True.intro))) (fun hb => by simp [hp.1, hp.2] at hb) fun _ H5 e5 => q .non none B _ (Stp.go x0 e5) rfl rfl
end
end RR
namespace RR
open PySem L2 Evl PyProof.Rows L2H RRH
section
variable {P : Program} {w : World} {K : PySem.W.Frag} {mg : Str → Option Value} {base : Heap} {C_BadTree C_RoadError : Addr}

abbrev sp_wholeT : Sp := Spec (ar1 eTh) (fun _ => True) eB (fun t y => y = t.isInt)
theorem d_is_wholeT (F0 : FunAt K mg "is_whole" s_is_whole) (T : Txt K mg)  : DefOk P w K mg base 1 "is_whole" ["thing"] sp_wholeT := by
  refine mk_def (k := 0) F0 sc_is_whole (fun _ _ _ _ _ _ us hl => match us, hl with | [_], _ => rfl) (fun _ => (lenC lenN)) ?_
  intro f cdv A0 outer s E i B H vs Q hr x0 hA hp q
  obtain ⟨v0, y0, _, rfl, rfl, h0, rfl⟩ := hA
  refine ⟨_, (pss_one (ps_ret (pe_and (pe_callB (k_isi (K := K) rfl) (by rfl) T.b_isinstance (by decide +kernel) (pa_cons (pv 0) (pa_cons (pe_bltn (v := .ty "int") (u := .type "int") (by rfl) T.b_int (by decide +kernel) rfl) pa_nil))) (pe_one (pe_not (pe_callB (k_isi (K := K) rfl) (by rfl) T.b_isinstance (by decide +kernel) (pa_cons (pv 0) (pa_cons (pe_bltn (v := .ty "bool") (u := .type "bool") (by rfl) T.b_bool (by decide +kernel) rfl) pa_nil)))))))), ?_⟩
  exact c_ret (Stp.refl x0) (es_wholeTh x0 rfl h0) fun w y B2 H2 s hy hR => q w y B2 H2 s hy hR

def comesTh (rs : List Road) (t : Th) (v : Int) : Bool := match t with
  | .int n => decide (0 ≤ n) && decide (n < (rs.length : Int)) && decide ((rs.getD n.toNat (0, 0, 0)).2.1 = v)
  | _ => false
abbrev sp_comes : Sp := Spec (ar3 (eL eR) eTh eI) (fun _ => True) eB (fun i y => y = comesTh i.1 i.2.1 i.2.2)
theorem d_comes_in (F0 : FunAt K mg "comes_in" s_comes_in) (T : Txt K mg) (G_is_wholeT : DefOk P w K mg base 1 "is_whole" ["thing"] sp_wholeT) : DefOk P w K mg base 2 "comes_in" ["roads", "thing", "place"] sp_comes := by
  refine mk_def (k := 1) F0 sc_comes_in (fun _ _ _ _ _ _ us hl => match us, hl with | [_, _, _], _ => rfl) (fun _ => (lenC (lenC (lenC lenN)))) ?_
  intro f cdv A0 outer s E i B H vs Q hr x0 hA hp q
  obtain ⟨v0, _, _, rfl, rfl, h0, v1, _, _, rfl, rfl, h1, v2, _, _, rfl, rfl, h2, rfl⟩ := hA
  obtain ⟨y0, y1, y2⟩ := i
  (try dsimp only at h0); (try dsimp only at h1); (try dsimp only at h2); (try dsimp only at hp); (try dsimp only at q)
  refine ⟨_, (pss_one (ps_ret (pe_and (pe_callD G_is_wholeT (hr.mono (by decide)) (by rfl) (pa_cons (pv 1) pa_nil)) (pe_and (pe_chain op_le op_lt pe_int (pv 1) (pe_callB (k_len (K := K) rfl) (by rfl) T.b_len (by decide +kernel) (pa_cons (pv 0) pa_nil))) (pe_one (pe_cmpR op_eq (pe_ix (k_ixt (K := K) rfl) (pe_ix (k_ixl (K := K) rfl) (pv 0) (pv 1) (fun _ _ => rfl)) pe_int (fun _ _ => rfl)) (pv 2) (nomark _))))))), ?_⟩
  cases h2
  have w1 : ∀ {S' : Bool → Prop}, S' y1.isInt → EvS eB (tCall sp_wholeT [] E0 (tCons (tVar 1) tNil)) _ B H S' := fun {S'} hS => EvS.imp (es_call y1 x0 (ea_c x0 mono_aN (es_var (E := eTh) (i := 1) (σ := [some v0, some v1, some (V.int y2)]) x0 rfl h1) (ea_n x0)) True.intro) fun y hy => (by rw [show y = _ from hy]; exact hS)
  cases y1 with
  | non => exact c_ret (Stp.refl x0) (es_andV (a := false) (b := false) x0 (w1 rfl) fun z => by cases z) fun w y B2 H2 s hy hR => q w y B2 H2 s hy hR
  | no => exact c_ret (Stp.refl x0) (es_andV (a := false) (b := false) x0 (w1 rfl) fun z => by cases z) fun w y B2 H2 s hy hR => q w y B2 H2 s hy hR
  | int n =>
    have h1' : v1 = .int n := h1
    subst h1'
    refine c_ret (Stp.refl x0) (es_andV (a := true) x0 (w1 rfl) fun _ => es_andV x0 (es_chain (b1 := decide (0 ≤ n)) (b2 := decide (n < (y0.length : Int))) x0 (es_int x0) (es_varI (i := 1) x0 rfl) (es_lenL x0 (es_var (E := eL eR) (i := 0) x0 rfl h0)) (fun v w B2 H2 hv hw Q q => ⟨_, _, hv, hw, q⟩) (fun v w B2 H2 hv hw Q q => ⟨_, _, hv, hw, q⟩)) fun hb => es_eqI (x := (y0.getD n.toNat (0, 0, 0)).2.1) x0 ?_ (es_varI (i := 2) x0 rfl)) fun w y B2 H2 s hy hR => q w y B2 H2 s ?_ hR
    · simp only [Bool.and_eq_true, decide_eq_true_eq] at hb
      have hn : n.toNat < y0.length := by omega
      have hr := List.getElem?_eq_getElem hn
      rw [List.getD_eq_getElem?_getD, hr]
      exact es_31 (t := y0[n.toNat]) x0 (es_ixL x0 (es_var (i := 0) x0 rfl h0) (es_varI (i := 1) x0 rfl) hb.1 hr)
    · rw [hy]
      show (true && ((decide (0 ≤ n) && decide (n < (y0.length : Int))) && decide ((y0.getD n.toNat (0, 0, 0)).2.1 = y2))) = (decide (0 ≤ n) && decide (n < (y0.length : Int)) && decide ((y0.getD n.toNat (0, 0, 0)).2.1 = y2))
      rfl

structure HangPre (m : Int) (rs : List Road) (root : Int) (t : List Th) : Prop where
  net : Net m rs
  h0 : 0 ≤ root
  h1 : root < m
  len : t.length = m.toNat
  inn : ∀ v, 0 ≤ v → v < m → v ≠ root → InT rs t v
abbrev sp_hang : Sp := Spec (ar3 (eL eR) eI (eL eTh)) (fun i => ∃ m, HangPre m i.1 i.2.1 i.2.2) eB (fun i y => ∀ m, i.2.2.length = m → (y = true ↔ ∀ v, 0 ≤ v → v < (m : Int) → itn (goB i.1 i.2.2 i.2.1) m v = i.2.1))
theorem back_next {rs : List Road} {t : List Th} {root v : Int} (hne : v ≠ root) (h : InT rs t v) : ∃ n r, t[v.toNat]? = some (.int n) ∧ 0 ≤ n ∧ rs[n.toNat]? = some r ∧ goB rs t root v = r.1 := by
  obtain ⟨n, r, k1, k2, k3, _⟩ := h
  exact ⟨n, r, k1, k2, k3, by unfold goB; rw [if_neg hne, stOf_eq k1 k3]⟩
/-- the row of a turn -/
def rowOf (g : Int → Int) (p : Int) (L : Nat) : List Int := (List.range L).map fun j => itn g j p
theorem rowOf_len (g : Int → Int) (p : Int) (L : Nat) : (rowOf g p L).length = L := by
  unfold rowOf
  rw [List.length_map, List.length_range]
theorem rowOf_succ (g : Int → Int) (p : Int) (L : Nat) : rowOf g p (L + 1) = rowOf g p L ++ [itn g L p] := by
  unfold rowOf
  rw [List.range_succ, List.map_append]
  rfl
theorem mem_rowOf {g : Int → Int} {p : Int} {L : Nat} {v : Int} : v ∈ rowOf g p L ↔ ∃ j, j < L ∧ itn g j p = v := by
  unfold rowOf
  rw [List.mem_map]
  constructor
  · rintro ⟨j, hj, e⟩
    exact ⟨j, List.mem_range.mp hj, e⟩
  · rintro ⟨j, hj, e⟩
    exact ⟨j, List.mem_range.mpr hj, e⟩
/-- what is safe ahead of place i -/
structure Safe (m root : Int) (g : Int → Int) (ks : List Int) : Prop where
  nd : ks.Nodup
  hr : root ∈ ks
  inm : ∀ k ∈ ks, 0 ≤ k ∧ k < m
  ok : ∀ k ∈ ks, ∃ j, itn g j k = root
theorem Safe.add {m root : Int} {g : Int → Int} {ks : List Int} {x : Int} (h : Safe m root g ks) (h0 : 0 ≤ x) (h1 : x < m) (hx : ∃ j, itn g j x = root) : Safe m root g (addK ks x) := by
  unfold addK
  by_cases e : x ∈ ks
  · rw [if_pos e]
    exact h
  · rw [if_neg e]
    refine ⟨nd_snoc h.nd e, List.mem_append_left _ h.hr, fun k hk => ?_, fun k hk => ?_⟩
    · rcases List.mem_append.mp hk with q | q
      · exact h.inm k q
      · rw [List.mem_singleton.mp q]
        exact ⟨h0, h1⟩
    · rcases List.mem_append.mp hk with q | q
      · exact h.ok k q
      · rw [List.mem_singleton.mp q]
        exact hx
theorem Safe.len {m root : Int} {g : Int → Int} {ks : List Int} (h : Safe m root g ks) (hm : m ≤ 12) : ks.length ≤ 12 := nodup_le h.nd fun k hk => by
  have := h.inm k hk
  omega
theorem mem_addK {ks : List Int} {x v : Int} : v ∈ addK ks x ↔ v ∈ ks ∨ v = x := by
  unfold addK
  by_cases e : x ∈ ks
  · rw [if_pos e]
    constructor
    · exact .inl
    · rintro (q | q)
      · exact q
      · rw [q]
        exact e
  · rw [if_neg e, List.mem_append, List.mem_singleton]
theorem d_hangs_together (F0 : FunAt K mg "hangs_together" s_hangs_together) (T : Txt K mg)  : DefOk P w K mg base 1 "hangs_together" ["roads", "root", "tree"] sp_hang := by
  refine mk_def (k := 0) F0 sc_hangs_together (fun _ _ _ _ _ _ us hl => match us, hl with | [_, _, _], _ => rfl) (fun _ => (lenC (lenC (lenC lenN)))) ?_
  intro f cdv A0 outer s E i B H vs Q hr x0 hA hp q
  obtain ⟨v0, _, _, rfl, rfl, h0, v1, _, _, rfl, rfl, h1, v2, _, _, rfl, rfl, h2, rfl⟩ := hA
  obtain ⟨y0, y1, y2⟩ := i
  (try dsimp only at h0); (try dsimp only at h1); (try dsimp only at h2); (try dsimp only at hp); (try dsimp only at q)
  refine ⟨_, (pss_cons (ps_set (i := 3) sc_hangs_together.nd rfl (by first | exact Or.inl rfl | exact Or.inr rfl) (pe_disp (pps_cons (pv 1) pe_bl pps_nil) (by rfl) (by rfl) (fun z => by cases z) (by decide)))
      (pss_cons (ps_for PassesOwn.never rfl (pi_range1 (by rfl) T.b_range (pa_cons (pe_callB (k_len (K := K) rfl) (by rfl) T.b_len (by decide +kernel) (pa_cons (pv 2) pa_nil)) pa_nil)) (pg_name (i := 4) sc_hangs_together.nd rfl (by first | exact Or.inl rfl | exact Or.inr rfl)) (pss_cons (ps_set (i := 5) sc_hangs_together.nd rfl (by first | exact Or.inl rfl | exact Or.inr rfl) (pe_lst pa_nil))
      (pss_cons (ps_set (i := 6) sc_hangs_together.nd rfl (by first | exact Or.inl rfl | exact Or.inr rfl) (pv 4))
      (pss_cons (ps_while PassesOwn.never (pw_and (pt_cmp (pc_dnotin (hu_of hr) (pv 6) (pv 3)) (by rfl)) (pw_and1 (pt_cmpR (k_notin (K := K) rfl) (pv 6) (pv 5) (by rfl)))).pt (pss_cons (ps_expr (pe_bm PySem.F.plainAttrs_list PySem.F.slot_list_append PySem.F.type_list_append mt_append (pv 5) (pa_cons (pv 6) pa_nil)))
      (pss_one (ps_set (i := 6) sc_hangs_together.nd rfl (by first | exact Or.inl rfl | exact Or.inr rfl) (pe_ix (k_ixt (K := K) rfl) (pe_ix (k_ixl (K := K) rfl) (pv 0) (pe_ix (k_ixl (K := K) rfl) (pv 2) (pv 6) (fun _ _ => rfl)) (fun _ _ => rfl)) pe_int (fun _ _ => rfl))))))
      (pss_cons (ps_if (pt_cmp (pc_dnotin (hu_of hr) (pv 6) (pv 3)) (by rfl)) (pss_one (ps_ret pe_bl)) pss_nil)
      (pss_one (ps_for PassesOwn.never rfl (pi_list (pv 5)) (pg_name (i := 7) sc_hangs_together.nd rfl (by first | exact Or.inl rfl | exact Or.inr rfl)) (pss_one (ps_dput (hu_of hr) (pv 3) (pv 7) pe_bl rfl)))))))))
      (pss_one (ps_ret pe_bl)))), ?_⟩
  cases h1
  obtain ⟨m, hP⟩ := hp
  obtain ⟨hnet, hr0, hr1, htl, hin⟩ := hP
  have hm12 := hnet.hi
  have hm1 := hnet.lo
  have hg : ∀ v, 0 ≤ v → v < m → 0 ≤ goB y0 y2 y1 v ∧ goB y0 y2 y1 v < m := fun v a b => goB_in hnet.ok hr0 hr1 hin a b
  have hgr := goB_root y0 y2 y1
  have hback : ∀ v, 0 ≤ v → v < m → v ≠ y1 → ∃ n r, y2[v.toNat]? = some (.int n) ∧ 0 ≤ n ∧ y0[n.toNat]? = some r ∧ goB y0 y2 y1 v = r.1 := fun v a b c => back_next c (hin v a b c)
  generalize goB y0 y2 y1 = g at hg hgr hback q
  refine q_disp1 (i := 3) (Stp.refl x0) (es_varI (i := 1) x0 rfl) (v := .bl true) ev_c fun lm H1 nl e1 s1 cm => ?_
  have x1 := s1.bh
  have hS0 : Safe m y1 g [y1] := ⟨by simp, List.mem_singleton.mpr rfl, fun k hk => by rw [List.mem_singleton.mp hk]; exact ⟨hr0, hr1⟩, fun k hk => ⟨0, List.mem_singleton.mp hk⟩⟩
  refine q_forR (es_lenL x1 (es_var (E := eL eTh) (i := 2) x1 rfl h2)) ⟨by omega, by omega⟩ (fun i σ' H' => ∃ a b c d B' kvs ks, σ' = [some v0, some (.int y1), some v2, some (.ref lm), a, b, c, d] ∧ Stp B H B' H' ∧ Cell H B' H' lm (.dK kvs) ∧ kvs.map (·.1) = ks.map Sum.inl ∧ Safe m y1 g ks ∧ ∀ v : Int, 0 ≤ v → v < (i : Nat) → v ∈ ks)
    (fun H2 e2 => ⟨none, none, none, none, B, _, [y1], rfl, s1.goH e2, cm.go e2, rfl, hS0, fun v a b => by omega⟩) (fun i σ' H' hi w => ?_) (fun σ' H' w => ?_)
  · clear cm s1 x1 e1 nl
    obtain ⟨a, b, c, d, B', kvs, ks, rfl, s, cm, hk, hS, hall⟩ := w
    have him : (i : Int) < m := by omega
    refine q_setM (i := 5) (em_nil (E := eI) s.bh) fun lr vs xs B3 H3 s3 nr br hlr hx hR => ?_
    cases hx
    cases hR
    have cr : Cell H B3 H3 lr (.lst ((rowOf g i 0).map V.int)) := ⟨fresh_back s.eh nr, br, hlr⟩
    have hne : lm ≠ lr := cm.neN nr
    replace cm := cm.up s3
    replace s := s.trans s3
    clear nr br hlr s3
    refine q_setI (i := 6) (n := itn g 0 i) (B := B3) (es_varI (i := 4) s.bh rfl) fun H4 e4 => ?_
    replace cm := cm.go e4
    replace cr := cr.go e4
    replace s := s.goH e4
    have hno0 : ∀ j, j < 0 → itn g j i ≠ y1 := fun j hj => absurd hj (Nat.not_lt_zero _)
    refine q_while (W := fun n σ' H' => ∃ L, σ' = [some v0, some (.int y1), some v2, some (.ref lm), some (.int i), some (.ref lr), some (.int (itn g L i)), d] ∧ Stp B H B3 H' ∧ Cell H B3 H' lm (.dK kvs) ∧ Cell H B3 H' lr (.lst ((rowOf g i L).map V.int)) ∧ (rowOf g i L).Nodup ∧ (∀ v ∈ rowOf g i L, ¬ v ∈ ks) ∧ n + L = 12) 12
      ⟨0, rfl, s, cm, cr, List.nodup_nil, (fun v hv => by cases hv), rfl⟩ (fun n σ' H' w => ?_)
    clear cm cr s e4
    obtain ⟨L, rfl, s, cm, cr, hnd, hns, hn⟩ := w
    have xH := Ex.refl H'
    have hm := itn_in hg (Int.natCast_nonneg i) him L
    have hL12 : L ≤ 12 := by
      have := nodup_le (n := m.toNat) hnd fun v hv => by
        obtain ⟨j, _, e⟩ := mem_rowOf.mp hv
        have := itn_in hg (Int.natCast_nonneg i) him j
        omega
      rw [rowOf_len] at this
      omega
    have hkl := hS.len hm12
    have hkv : kvs.length = ks.length := by
      have := congrArg List.length hk
      rw [List.length_map, List.length_map] at this
      exact this
    refine ⟨!decide (itn g L i ∈ ks) && !decide (itn g L i ∈ rowOf g i L), et_and (et_sB (es_dnotin xH (es_varI (i := 6) xH rfl) (es_var (i := 3) xH rfl (cell_D cm hk)))) fun _ => et_sT (es_ninL xH (es_varI (i := 6) xH rfl) (es_var (E := eL eI) (i := 5) xH rfl (cell_L cr (pI' _)))), fun hb H5 e5 => ?_, fun hb H5 e5 => ?_⟩
    · simp only [Bool.and_eq_true, Bool.not_eq_true', decide_eq_false_iff_not] at hb
      obtain ⟨hb1, hb2⟩ := hb
      replace cm := cm.go e5
      replace cr := cr.go e5
      replace s := s.goH e5
      refine ⟨fun σ' H' => ∃ L', σ' = [some v0, some (.int y1), some v2, some (.ref lm), some (.int i), some (.ref lr), some (.int (itn g L' i)), d] ∧ Stp B H B3 H' ∧ Cell H B3 H' lm (.dK kvs) ∧ Cell H B3 H' lr (.lst ((rowOf g i L').map V.int)) ∧ (rowOf g i L').Nodup ∧ (∀ v ∈ rowOf g i L', ¬ v ∈ ks) ∧ n + L' = 13,
        fun σ2 H6 ⟨L', r1, r2, r3, r4, r5, r6, r7⟩ => (by
          have h9 : L' ≤ 12 := by
            have := nodup_le (n := m.toNat) r5 fun v hv => by
              obtain ⟨j, _, e⟩ := mem_rowOf.mp hv
              have := itn_in hg (Int.natCast_nonneg i) him j
              omega
            rw [rowOf_len] at this
            omega
          exact ⟨12 - L', by omega, L', r1, r2, r3, r4, r5, r6, by omega⟩), ?_⟩
      have hner : itn g L i ≠ y1 := fun e => hb1 (by rw [e]; exact hS.hr)
      obtain ⟨nn, r, k1, k2, k3, k4⟩ := hback _ hm.1 hm.2 hner
      refine c_appI (D := { nx := _, rt := _, bk := _, ct := _ }) (i := 5) cr s rfl (by rw [List.length_map, rowOf_len]; omega) (es_varI (i := 6) s.bh rfl) fun H6 s6 cr6 oth6 => ?_
      have cm6 := oth6 lm _ hne cm
      have x6 := s6.bh
      refine s_asg (i := 6) (v := .int (itn g (L + 1) i)) (ev_sI (B := B3) ((es_30 (t := r) x6 (es_ixL (E := eR) (i := nn) x6 (es_var (i := 0) x6 rfl (Enc.up _ s6.eb h0)) (es_thI (es_ixL (E := eTh) (x := Th.int nn) x6 (es_var (i := 2) x6 rfl (Enc.up _ s6.eb h2)) (es_varI (i := 6) x6 rfl) hm.1 k1)) k2 k3)).to k4.symm)) fun H7 e7 => ?_
      refine ⟨L + 1, rfl, s6.goH e7, cm6.go e7, ?_, ?_, ?_, by omega⟩
      · rw [rowOf_succ, map_snoc]
        exact cr6.go e7
      · rw [rowOf_succ]
        exact nd_snoc hnd hb2
      · intro v hv
        rw [rowOf_succ] at hv
        rcases List.mem_append.mp hv with z | z
        · exact hns v z
        · rw [List.mem_singleton.mp z]
          exact hb1
    · replace cm := cm.go e5
      replace cr := cr.go e5
      replace s := s.goH e5
      clear xH
      have xH := Ex.refl H5
      refine q_when (et_sB (es_dnotin xH (es_varI (i := 6) xH rfl) (es_var (i := 3) xH rfl (cell_D cm hk)))) (fun hb2 H6 e6 => ?_) (fun hb2 H6 e6 => ?_)
      · have hnk : ¬ itn g L i ∈ ks := by simpa using hb2
        have hin2 : itn g L i ∈ rowOf g i L := by
          simp only [Bool.and_eq_false_iff, Bool.not_eq_false', decide_eq_true_eq] at hb
          exact hb.resolve_left hnk
        obtain ⟨j, hj, ej⟩ := mem_rowOf.mp hin2
        have hno : ∀ k, itn g k i ≠ y1 := itn_ring hj (fun j' hj' e => hns _ (mem_rowOf.mpr ⟨j', hj', rfl⟩) (by rw [e]; exact hS.hr)) ej.symm
        refine c_ret (s.goH e6) (es_bl (s.goH e6).bh) fun w y B2 H2 s2 hy hR => q w y B2 H2 s2 (fun mm hmm => ⟨fun z => (by rw [hy] at z; cases z), fun z => absurd (z i (by omega) ?_) (hno mm)⟩) hR
        rw [show (mm : Int) = m by rw [← hmm, htl]; omega]
        exact him
      · have hik : itn g L i ∈ ks := by simpa using hb2
        replace cm := cm.go e6
        replace cr := cr.go e6
        replace s := s.goH e6
        clear xH
        obtain ⟨B4, s4, eb4, hRr, oth4⟩ := cell_pub (E := eI) cr s (pI' _)
        have cm4 := oth4 lm _ hne cm
        have hrow : ∀ v ∈ rowOf g i L, 0 ≤ v ∧ v < m ∧ ∃ j, itn g j v = y1 := fun v hv => by
          obtain ⟨j, hj, e⟩ := mem_rowOf.mp hv
          have := itn_in hg (Int.natCast_nonneg i) him j
          rw [e] at this
          obtain ⟨k, hk⟩ := hS.ok _ hik
          refine ⟨this.1, this.2, k + (L - j), ?_⟩
          have h9 : itn g (L - j) v = itn g L i := by
            rw [← e, ← itn_add, show L - j + j = L by omega]
          rw [itn_add, h9]
          exact hk
        refine c_forE (E := eI) s4.bh ⟨_, ev_var (i := 5) rfl, hRr⟩ (fun j σ' H' => ∃ d kvs ks', σ' = [some v0, some (.int y1), some v2, some (.ref lm), some (.int i), some (.ref lr), some (.int (itn g L i)), d] ∧ Stp B H B4 H' ∧ Cell H B4 H' lm (.dK kvs) ∧ kvs.map (·.1) = ks'.map Sum.inl ∧ Safe m y1 g ks' ∧ (∀ v ∈ ks, v ∈ ks') ∧ ∀ v ∈ (rowOf g i L).take j, v ∈ ks')
          (fun H7 e7 => ⟨d, kvs, ks, rfl, s4.goH e7, cm4.go e7, hk, hS, fun v hv => hv, fun v hv => by cases hv⟩) (fun j σ' H' ⟨_, _, _, _, s, _⟩ => s.bh) (fun j x v σ' H' hj hv w => ?_) (fun σ' H' w => ?_)
        · obtain ⟨d, kvs', ks', rfl, s7, c7, hk7, hS7, hsub, htk⟩ := w
          cases hv
          have hx := hrow x (List.mem_of_getElem? hj)
          have hkl7 := hS7.len hm12
          have hkv7 : kvs'.length = ks'.length := by
            have := congrArg List.length hk7
            rw [List.length_map, List.length_map] at this
            exact this
          refine c_dput (i := 3) c7 hk7 s7 (by omega) (v := .bl true) ev_c rfl (es_varI (i := 7) s7.bh rfl) fun H8 kvs8 s8 c8 hk8 _ => ⟨_, kvs8, addK ks' x, rfl, s8, c8, hk8, hS7.add hx.1 hx.2.1 hx.2.2, fun v hv => mem_addK.mpr (.inl (hsub v hv)), fun v hv => ?_⟩
          rw [take_next hj] at hv
          rcases List.mem_append.mp hv with z | z
          · exact mem_addK.mpr (.inl (htk v z))
          · exact mem_addK.mpr (.inr (List.mem_singleton.mp z))
        · obtain ⟨d, kvs', ks', rfl, s7, c7, hk7, hS7, hsub, htk⟩ := w
          refine ⟨_, _, _, d, B4, kvs', ks', rfl, s7, c7, hk7, hS7, fun v v0 v1 => ?_⟩
          by_cases e : v = i
          · subst e
            cases L with
            | zero => exact hsub _ hik
            | succ L =>
              rw [List.take_length] at htk
              exact htk _ (mem_rowOf.mpr ⟨0, Nat.succ_pos _, rfl⟩)
          · exact hsub v (hall v v0 (by omega))
  · obtain ⟨a, b, c, d, B', kvs, ks, rfl, s, cm, hk, hS, hall⟩ := w
    refine c_ret s (es_bl s.bh) fun w y B2 H2 s2 hy hR => q w y B2 H2 s2 (fun mm hmm => ⟨fun _ v v0 v1 => ?_, fun _ => hy⟩) hR
    have hmm' : (mm : Int) = m := by rw [← hmm, htl]; omega
    have := itn_most hgr hr0 hr1 hg v0 (by omega) (hS.ok v (hall v v0 (by rw [Int.toNat_natCast, hmm]; exact v1)))
    rw [show m.toNat = mm by omega] at this
    exact this

abbrev sp_stands : Sp := Spec (ar4 eI (eL eR) eI (eL eTh)) (fun i => Net i.1 i.2.1 ∧ 0 ≤ i.2.2.1 ∧ i.2.2.1 < i.1 ∧ i.2.2.2.length ≤ 100) eB (fun i y => y = true ↔ IsTree i.1 i.2.1 i.2.2.1 i.2.2.2)
theorem d_stands (F0 : FunAt K mg "stands" s_stands) (T : Txt K mg) (G_comes_in : DefOk P w K mg base 2 "comes_in" ["roads", "thing", "place"] sp_comes) (G_hangs_together : DefOk P w K mg base 1 "hangs_together" ["roads", "root", "tree"] sp_hang) : DefOk P w K mg base 3 "stands" ["many", "roads", "root", "tree"] sp_stands := by
  refine mk_def (k := 2) F0 sc_stands (fun _ _ _ _ _ _ us hl => match us, hl with | [_, _, _, _], _ => rfl) (fun _ => (lenC (lenC (lenC (lenC lenN))))) ?_
  intro f cdv A0 outer s E i B H vs Q hr x0 hA hp q
  obtain ⟨v0, _, _, rfl, rfl, h0, v1, _, _, rfl, rfl, h1, v2, _, _, rfl, rfl, h2, v3, _, _, rfl, rfl, h3, rfl⟩ := hA
  obtain ⟨y0, y1, y2, y3⟩ := i
  (try dsimp only at h0); (try dsimp only at h1); (try dsimp only at h2); (try dsimp only at h3); (try dsimp only at hp); (try dsimp only at q)
  refine ⟨_, (pss_cons (ps_if (pw_or (pt_cmpR op_ne (pe_callB (k_len (K := K) rfl) (by rfl) T.b_len (by decide +kernel) (pa_cons (pv 3) pa_nil)) (pv 0) (nomark _)) (pw_or1 (pt_cmpR op_notN (pe_ix (k_ixl (K := K) rfl) (pv 3) (pv 2) (fun _ _ => rfl)) pe_non (nomark _)))).pt (pss_one (ps_ret pe_bl)) pss_nil)
      (pss_cons (ps_for PassesOwn.never rfl (pi_range1 (by rfl) T.b_range (pa_cons (pv 0) pa_nil)) (pg_name (i := 4) sc_stands.nd rfl (by first | exact Or.inl rfl | exact Or.inr rfl)) (pss_one (ps_if (pw_and (pt_cmpR op_ne (pv 4) (pv 2) (nomark _)) (pw_and1 (pt_not (pt_val (pe_callD G_comes_in (hr.mono (by decide)) (by rfl) (pa_cons (pv 1) (pa_cons (pe_ix (k_ixl (K := K) rfl) (pv 3) (pv 4) (fun _ _ => rfl)) (pa_cons (pv 4) pa_nil)))))))).pt (pss_one (ps_ret pe_bl)) pss_nil)))
      (pss_one (ps_ret (pe_callD G_hangs_together (hr.mono (by decide)) (by rfl) (pa_cons (pv 1) (pa_cons (pv 2) (pa_cons (pv 3) pa_nil)))))))), ?_⟩
  cases h0
  cases h2
  obtain ⟨hnet, hr0, hr1, htl⟩ := hp
  have hm12 := hnet.hi
  have hm1 := hnet.lo
  have no : ∀ {σ : L2.St} {B' H' : Hp} {D : Ends}, Stp B H B' H' → D.rt = Q → ¬ IsTree y0 y1 y2 y3 → tRet (tC (.bl false)) D σ H' := fun s e h => c_ret s (es_bl s.bh) fun w y B2 H2 s hy hR => by
    rw [e]
    exact q w y B2 H2 s ⟨fun h => (by rw [hy] at h; cases h), fun z => absurd z h⟩ hR
  by_cases hlen : y3.length = y0.toNat
  · have hrl : y2.toNat < y3.length := by omega
    have hx := List.getElem?_eq_getElem hrl
    generalize y3[y2.toNat] = tr at hx
    refine q_when (et_or (a := false) (et_is (et_sT (es_neI x0 (es_lenL x0 (es_var (E := eL eTh) (i := 3) x0 rfl h3)) (es_varI (i := 0) x0 rfl))) (by rw [decide_eq_true (by omega)]; rfl)) fun _ => et_sT (es_notNTh x0 (es_ixL (E := eTh) x0 (es_var (i := 3) x0 rfl h3) (es_varI (i := 2) x0 rfl) hr0 hx))) (fun hb H1 e1 => ?_) (fun hb H1 e1 => ?_)
    · refine no (Stp.go x0 e1) rfl fun hI => ?_
      have := hI.rt
      rw [hx] at this
      cases this
      cases hb
    have htr : tr = .non := by
      cases tr with
      | non => rfl
      | int n => cases hb
      | no => cases hb
    subst htr
    have s1 : Stp B H B H1 := Stp.go x0 e1
    have x1 := s1.bh
    refine q_forR (es_varI (i := 0) x1 rfl) ⟨by omega, by omega⟩ (fun i σ' H' => ∃ a B', σ' = [some (.int y0), some v1, some (.int y2), some v3, a] ∧ Stp B H B' H' ∧ ∀ v : Int, 0 ≤ v → v < (i : Nat) → v ≠ y2 → InT y1 y3 v)
      (fun H2 e2 => ⟨none, B, rfl, s1.goH e2, fun v a b => by omega⟩) (fun i σ' H' hi w => ?_) (fun σ' H' w => ?_)
    · obtain ⟨a, B', rfl, s, hA⟩ := w
      have x2 := s.bh
      have hil : i < y3.length := by omega
      have hxi := List.getElem?_eq_getElem hil
      generalize y3[i] = th at hxi
      refine s_when (b := !decide ((i : Int) = y2) && !comesTh y1 th i) (et_and (et_sT (es_neI x2 (es_varI (i := 4) x2 rfl) (es_varI (i := 2) x2 rfl))) fun _ => et_not (et_sB (es_call (y1, th, (i : Int)) x2 (ea_c x2 (mono_aC (mono_aC mono_aN)) (es_var (E := eL eR) (i := 1) x2 rfl (Enc.up _ s.eb h1)) (ea_c x2 (mono_aC mono_aN) (es_ixL (E := eTh) (i := (i : Int)) x2 (es_var (i := 3) x2 rfl (Enc.up _ s.eb h3)) (es_varI (i := 4) x2 rfl) (by omega) (by rw [Int.toNat_natCast]; exact hxi)) (ea_c x2 mono_aN (es_varI (i := 4) x2 rfl) (ea_n x2)))) True.intro))) (fun hb H5 e5 => ?_) (fun hb H5 e5 => ⟨_, B', rfl, s.goH e5, fun v v0 v1 v2 => ?_⟩)
      · simp only [Bool.and_eq_true, Bool.not_eq_true', decide_eq_false_iff_not] at hb
        refine no (s.goH e5) rfl fun hI => ?_
        obtain ⟨n, r, k1, k2, k3, k4⟩ := hI.inn i (by omega) hi hb.1
        rw [Int.toNat_natCast, hxi] at k1
        cases k1
        have hc : comesTh y1 (.int n) i = true := by
          show (decide (0 ≤ n) && decide (n < (y1.length : Int)) && decide ((y1.getD n.toNat (0, 0, 0)).2.1 = (i : Int))) = true
          have := (List.getElem?_eq_some_iff.mp k3).1
          rw [decide_eq_true k2, decide_eq_true (by omega), List.getD_eq_getElem?_getD, k3]
          exact decide_eq_true k4
        rw [hc] at hb
        cases hb.2
      · by_cases e : v = i
        · subst e
          rw [decide_eq_false v2] at hb
          have hc : comesTh y1 th i = true := by simpa using hb
          cases th with
          | non => cases hc
          | no => cases hc
          | int n =>
            have hc : (decide (0 ≤ n) && decide (n < (y1.length : Int)) && decide ((y1.getD n.toNat (0, 0, 0)).2.1 = (i : Int))) = true := hc
            simp only [Bool.and_eq_true, decide_eq_true_eq] at hc
            obtain ⟨⟨c1, c2⟩, c3⟩ := hc
            have hn : n.toNat < y1.length := by omega
            have hr := List.getElem?_eq_getElem hn
            rw [List.getD_eq_getElem?_getD, hr] at c3
            exact ⟨n, _, by rw [Int.toNat_natCast]; exact hxi, c1, hr, c3⟩
        · exact hA v v0 (by omega) v2
    · obtain ⟨a, B', rfl, s, hA⟩ := w
      have x2 := s.bh
      have hin : ∀ v, 0 ≤ v → v < y0 → v ≠ y2 → InT y1 y3 v := fun v a b c => hA v a (by omega) c
      refine c_ret s (es_call (y1, y2, y3) x2 (ea_c x2 (mono_aC (mono_aC mono_aN)) (es_var (E := eL eR) (i := 1) x2 rfl (Enc.up _ s.eb h1)) (ea_c x2 (mono_aC mono_aN) (es_varI (i := 2) x2 rfl) (ea_c x2 mono_aN (es_var (E := eL eTh) (i := 3) x2 rfl (Enc.up _ s.eb h3)) (ea_n x2)))) ⟨y0, hnet, hr0, hr1, hlen, hin⟩) fun w y B2 H2 s2 hy hR => q w y B2 H2 s2 ?_ hR
      have hy := hy y0.toNat hlen
      rw [hy]
      constructor
      · intro h
        exact ⟨hlen, hx, hin, fun v a b => h v a (by omega)⟩
      · intro h v a b
        exact h.back v a (by omega)
  · refine q_when (et_or (a := true) (b := true) (et_is (et_sT (es_neI x0 (es_lenL x0 (es_var (E := eL eTh) (i := 3) x0 rfl h3)) (es_varI (i := 0) x0 rfl))) (by rw [decide_eq_false (by omega)]; rfl)) fun z => by cases z) (fun hb H1 e1 => ?_) (fun hb => by cases hb)
    exact no (Stp.go x0 e1) rfl fun hI => hlen hI.len
end
end RR
namespace RR
open PySem L2 Evl PyProof.Rows L2H RRH
section
variable {P : Program} {w : World} {K : PySem.W.Frag} {mg : Str → Option Value} {base : Heap} {C_BadTree C_RoadError : Addr}
theorem d_is_wholeH (F0 : FunAt K mg "is_whole" s_is_whole) (T : Txt K mg)  : DefOkH P w K mg base 1 "is_whole" ["thing"] sp_whole := by
  refine mk_defH (k := 0) F0 sc_is_whole (fun _ _ _ _ _ _ us hl => match us, hl with | [_], _ => rfl) (fun _ => (lenC lenN)) ?_
  intro f cdv A0 outer s E i B H vs Q pp hc hr x0 hA hp q
  obtain ⟨v0, y0, _, rfl, rfl, h0, rfl⟩ := hA
  refine ⟨_, (pss_one (ps_ret (pe_and (pe_callB (k_isi (K := K) rfl) (by rfl) T.b_isinstance (by decide +kernel) (pa_cons (pv 0) (pa_cons (pe_bltn (v := .ty "int") (u := .type "int") (by rfl) T.b_int (by decide +kernel) rfl) pa_nil))) (pe_one (pe_not (pe_callB (k_isi (K := K) rfl) (by rfl) T.b_isinstance (by decide +kernel) (pa_cons (pv 0) (pa_cons (pe_bltn (v := .ty "bool") (u := .type "bool") (by rfl) T.b_bool (by decide +kernel) rfl) pa_nil)))))))), ?_⟩
  cases h0
  exact c_ret (Stp.refl x0) (es_andV x0 (es_isiI x0 (es_varI x0 rfl) k_ii) fun _ => es_notV x0 (es_isiI x0 (es_varI x0 rfl) k_ib)) fun w y B2 H2 s hy hR => q w y B2 H2 s hy hR
theorem d_is_placeH (F0 : FunAt K mg "is_place" s_is_place) (T : Txt K mg) (G_is_wholeH : DefOkH P w K mg base 1 "is_whole" ["thing"] sp_whole) : DefOkH P w K mg base 2 "is_place" ["many", "thing"] sp_place := by
  refine mk_defH (k := 1) F0 sc_is_place (fun _ _ _ _ _ _ us hl => match us, hl with | [_, _], _ => rfl) (fun _ => (lenC (lenC lenN))) ?_
  intro f cdv A0 outer s E i B H vs Q pp hc hr x0 hA hp q
  obtain ⟨v0, _, _, rfl, rfl, h0, v1, _, _, rfl, rfl, h1, rfl⟩ := hA
  obtain ⟨y0, y1⟩ := i
  (try dsimp only at h0); (try dsimp only at h1); (try dsimp only at hp); (try dsimp only at q)
  refine ⟨_, (pss_one (ps_ret (pe_and (pe_callDH G_is_wholeH (hr.mono (by decide)) hc (by rfl) (pa_cons (pv 1) pa_nil)) (pe_one (pe_chain op_le op_lt pe_int (pv 1) (pv 0)))))), ?_⟩
  cases h0
  cases h1
  refine c_ret (Stp.refl x0) (es_andV (a := true) x0 (es_call y1 x0 (ea_c x0 mono_aN (es_varI x0 rfl) (ea_n x0)) True.intro) fun _ => (es_chain x0 (es_int x0) (es_varI x0 rfl) (es_varI x0 rfl) (fun v w B2 H2 hv hw Q q => ⟨_, _, hv, hw, q⟩) (fun v w B2 H2 hv hw Q q => ⟨_, _, hv, hw, q⟩))) fun w y B2 H2 s hy hR => q w y B2 H2 s ?_ hR
  rw [hy]
  rfl
theorem d_is_roadH (F0 : FunAt K mg "is_road" s_is_road) (T : Txt K mg) (G_is_wholeH : DefOkH P w K mg base 1 "is_whole" ["thing"] sp_whole) (G_is_placeH : DefOkH P w K mg base 2 "is_place" ["many", "thing"] sp_place) : DefOkH P w K mg base 3 "is_road" ["many", "thing"] sp_isroad := by
  refine mk_defH (k := 2) F0 sc_is_road (fun _ _ _ _ _ _ us hl => match us, hl with | [_, _], _ => rfl) (fun _ => (lenC (lenC lenN))) ?_
  intro f cdv A0 outer s E i B H vs Q pp hc hr x0 hA hp q
  obtain ⟨v0, _, _, rfl, rfl, h0, v1, _, _, rfl, rfl, h1, rfl⟩ := hA
  obtain ⟨y0, y1⟩ := i
  (try dsimp only at h0); (try dsimp only at h1); (try dsimp only at hp); (try dsimp only at q)
  refine ⟨_, (pss_cons (ps_if (pw_or (pt_not (pt_val (pe_callB (k_isi (K := K) rfl) (by rfl) T.b_isinstance (by decide +kernel) (pa_cons (pv 1) (pa_cons (pe_bltn (v := .ty "tuple") (u := .type "tuple") (by rfl) T.b_tuple (by decide +kernel) rfl) pa_nil))))) (pw_or1 (pt_cmpR op_ne (pe_callB (k_len (K := K) rfl) (by rfl) T.b_len (by decide +kernel) (pa_cons (pv 1) pa_nil)) pe_int (nomark _)))).pt (pss_one (ps_ret pe_bl)) pss_nil)
      (pss_cons (ps_if (pw_or (pt_not (pt_val (pe_callDH G_is_placeH (hr.mono (by decide)) hc (by rfl) (pa_cons (pv 0) (pa_cons (pe_ix (k_ixt (K := K) rfl) (pv 1) pe_int (fun _ _ => rfl)) pa_nil))))) (pw_or (pt_not (pt_val (pe_callDH G_is_placeH (hr.mono (by decide)) hc (by rfl) (pa_cons (pv 0) (pa_cons (pe_ix (k_ixt (K := K) rfl) (pv 1) pe_int (fun _ _ => rfl)) pa_nil))))) (pw_or1 (pt_cmpR op_eq (pe_ix (k_ixt (K := K) rfl) (pv 1) pe_int (fun _ _ => rfl)) (pe_ix (k_ixt (K := K) rfl) (pv 1) pe_int (fun _ _ => rfl)) (nomark _))))).pt (pss_one (ps_ret pe_bl)) pss_nil)
      (pss_one (ps_ret (pe_and (pe_callDH G_is_wholeH (hr.mono (by decide)) hc (by rfl) (pa_cons (pe_ix (k_ixt (K := K) rfl) (pv 1) pe_int (fun _ _ => rfl)) pa_nil)) (pe_one (pe_chain op_le op_lt pe_int (pe_ix (k_ixt (K := K) rfl) (pv 1) pe_int (fun _ _ => rfl)) (pe_gI (by rfl) T.c_DEAREST)))))))), ?_⟩
  cases h0
  obtain ⟨k1, k2, k3, k4, k5, k6, k7⟩ := hp
  refine q_when (et_or (et_not (et_sB (es_isi3 x0 (es_var x0 rfl h1) k_tt))) fun _ => et_sT (es_neI x0 (es_len3 x0 (es_var x0 rfl h1)) (es_int x0))) (fun hb => by cases hb) (fun _ H1 e1 => ?_)
  refine q_when (et_or (et_not (et_sB (es_call (y0, y1.1) (x0.trans e1) (ea_c (x0.trans e1) (mono_aC mono_aN) (es_varI (x0.trans e1) rfl) (ea_c (x0.trans e1) mono_aN (es_30 (x0.trans e1) (es_var (x0.trans e1) rfl h1)) (ea_n (x0.trans e1)))) True.intro))) fun _ => et_or (et_not (et_sB (es_call (y0, y1.2.1) (x0.trans e1) (ea_c (x0.trans e1) (mono_aC mono_aN) (es_varI (x0.trans e1) rfl) (ea_c (x0.trans e1) mono_aN (es_31 (x0.trans e1) (es_var (x0.trans e1) rfl h1)) (ea_n (x0.trans e1)))) True.intro))) fun _ => et_sT (es_eqI (x0.trans e1) (es_30 (x0.trans e1) (es_var (x0.trans e1) rfl h1)) (es_31 (x0.trans e1) (es_var (x0.trans e1) rfl h1)))) (fun hb => ?_) (fun _ H2 e2 => ?_)
  · simp [k1, k2, k3, k4, k5] at hb
  refine c_ret ((Stp.go x0 e1).goH e2) (es_andV (a := true) ((x0.trans e1).trans e2) (es_call y1.2.2 ((x0.trans e1).trans e2) (ea_c ((x0.trans e1).trans e2) mono_aN (es_32 ((x0.trans e1).trans e2) (es_var ((x0.trans e1).trans e2) rfl h1)) (ea_n ((x0.trans e1).trans e2))) True.intro) fun _ => (es_chain ((x0.trans e1).trans e2) (es_int ((x0.trans e1).trans e2)) (es_32 ((x0.trans e1).trans e2) (es_var ((x0.trans e1).trans e2) rfl h1)) (es_int ((x0.trans e1).trans e2)) (fun v w B2 H2 hv hw Q q => ⟨_, _, hv, hw, q⟩) (fun v w B2 H2 hv hw Q q => ⟨_, _, hv, hw, q⟩))) fun w y B2 H3 s hy hR => q w y B2 H3 s ?_ hR
  rw [hy, decide_eq_true k6, decide_eq_true k7]
  rfl
theorem d_checkedH (F0 : FunAt K mg "checked" s_checked) (T : Txt K mg) (G_is_wholeH : DefOkH P w K mg base 1 "is_whole" ["thing"] sp_whole) (G_is_roadH : DefOkH P w K mg base 3 "is_road" ["many", "thing"] sp_isroad) : DefOkH P w K mg base 4 "checked" ["many", "roads"] sp_checked := by
  refine mk_defH (k := 3) F0 sc_checked (fun _ _ _ _ _ _ us hl => match us, hl with | [_, _], _ => rfl) (fun _ => (lenC (lenC lenN))) ?_
  intro f cdv A0 outer s E i B H vs Q pp hc hr x0 hA hp q
  obtain ⟨v0, _, _, rfl, rfl, h0, v1, _, _, rfl, rfl, h1, rfl⟩ := hA
  obtain ⟨y0, y1⟩ := i
  (try dsimp only at h0); (try dsimp only at h1); (try dsimp only at hp); (try dsimp only at q)
  refine ⟨_, (pss_cons (ps_if (pw_or (pt_not (pt_val (pe_callDH G_is_wholeH (hr.mono (by decide)) hc (by rfl) (pa_cons (pv 0) pa_nil)))) (pw_or1 (pt_not (pt_chain op_le op_le pe_int (pv 0) (pe_gI (by rfl) T.c_MOST_PLACES))))).pt (pss_one ps_never) pss_nil)
      (pss_cons (ps_if (pw_or (pt_not (pt_val (pe_callB (k_isi (K := K) rfl) (by rfl) T.b_isinstance (by decide +kernel) (pa_cons (pv 1) (pa_cons (pe_bltn (v := .ty "list") (u := .type "list") (by rfl) T.b_list (by decide +kernel) rfl) pa_nil))))) (pw_or1 (pt_cmpR op_gt (pe_callB (k_len (K := K) rfl) (by rfl) T.b_len (by decide +kernel) (pa_cons (pv 1) pa_nil)) (pe_gI (by rfl) T.c_MOST_ROADS) (nomark _)))).pt (pss_one ps_never) pss_nil)
      (pss_one (ps_forH PassesOwn.never hc (pi_listH (pv 1)) (pg_name (i := 2) sc_checked.nd rfl (by first | exact Or.inl rfl | exact Or.inr rfl)) (pss_one (ps_if (pt_not (pt_val (pe_callDH G_is_roadH (hr.mono (by decide)) hc (by rfl) (pa_cons (pv 0) (pa_cons (pv 2) pa_nil))))) (pss_one ps_never) pss_nil)))))), ?_⟩
  cases h0
  have hlo := hp.lo
  have hhi := hp.hi
  have hlen := hp.len
  refine q_when (et_or (et_not (et_sB (es_call y0 x0 (ea_c x0 mono_aN (es_varI x0 rfl) (ea_n x0)) True.intro))) fun _ => et_not (et_sT (es_chain x0 (es_int x0) (es_varI x0 rfl) (es_int x0) (fun v w B2 H2 hv hw Q q => ⟨_, _, hv, hw, q⟩) (fun v w B2 H2 hv hw Q q => ⟨_, _, hv, hw, q⟩)))) (fun hb => ?_) (fun _ H1 e1 => ?_)
  · simp at hb
    omega
  refine q_when (et_or (et_not (et_sB (es_isiL (x0.trans e1) (es_var (x0.trans e1) rfl h1) k_ll))) fun _ => et_sT (es_opB (x0.trans e1) (es_lenL (x0.trans e1) (es_var (x0.trans e1) rfl h1)) (es_int (x0.trans e1)))) (fun hb => ?_) (fun _ H2 e2 => ?_)
  · simp at hb
    omega
  have s0 := (Stp.go x0 e1).goH e2
  refine c_forE s0.bh ⟨_, ev_var rfl, h1⟩ (fun i σ' H' => ∃ a, σ' = [some (.int y0), some v1, a] ∧ Stp B H B H') (fun H3 e3 => ⟨none, rfl, s0.goH e3⟩) (fun i σ' H' ⟨_, _, s⟩ => s.bh) (fun i r v σ' H' hi hv w => ?_) (fun σ' H' w => ?_)
  · obtain ⟨a, rfl, s⟩ := w
    have hr : OkR y0 r := hp.ok r (List.mem_of_getElem? hi)
    exact s_when (et_not (et_sB (es_call (y0, r) s.bh (ea_c s.bh (mono_aC mono_aN) (es_varI s.bh rfl) (ea_c s.bh mono_aN (es_var s.bh rfl hv) (ea_n s.bh))) hr))) (fun hb => by cases hb) fun _ H5 e5 => ⟨_, rfl, s.goH e5⟩
  · obtain ⟨a, rfl, s⟩ := w
    exact q .non none B H' s rfl rfl
theorem d_need_placeH (F0 : FunAt K mg "need_place" s_need_place) (T : Txt K mg) (G_is_placeH : DefOkH P w K mg base 2 "is_place" ["many", "thing"] sp_place) : DefOkH P w K mg base 3 "need_place" ["many", "place"] sp_need := by
  refine mk_defH (k := 2) F0 sc_need_place (fun _ _ _ _ _ _ us hl => match us, hl with | [_, _], _ => rfl) (fun _ => (lenC (lenC lenN))) ?_
  intro f cdv A0 outer s E i B H vs Q pp hc hr x0 hA hp q
  obtain ⟨v0, _, _, rfl, rfl, h0, v1, _, _, rfl, rfl, h1, rfl⟩ := hA
  obtain ⟨y0, y1⟩ := i
  (try dsimp only at h0); (try dsimp only at h1); (try dsimp only at hp); (try dsimp only at q)
  refine ⟨_, (pss_one (ps_if (pt_not (pt_val (pe_callDH G_is_placeH (hr.mono (by decide)) hc (by rfl) (pa_cons (pv 0) (pa_cons (pv 1) pa_nil))))) (pss_one ps_never) pss_nil)), ?_⟩
  cases h0
  cases h1
  exact s_when (et_not (et_sB (es_call (y0, y1) x0 (ea_c x0 (mono_aC mono_aN) (es_varI x0 rfl) (ea_c x0 mono_aN (es_varI x0 rfl) (ea_n x0))) True.intro))) (fun hb => by simp [hp.1, hp.2] at hb) fun _ H5 e5 => q .non none B _ (Stp.go x0 e5) rfl rfl
theorem d_is_wholeTH (F0 : FunAt K mg "is_whole" s_is_whole) (T : Txt K mg)  : DefOkH P w K mg base 1 "is_whole" ["thing"] sp_wholeT := by
  refine mk_defH (k := 0) F0 sc_is_whole (fun _ _ _ _ _ _ us hl => match us, hl with | [_], _ => rfl) (fun _ => (lenC lenN)) ?_
  intro f cdv A0 outer s E i B H vs Q pp hc hr x0 hA hp q
  obtain ⟨v0, y0, _, rfl, rfl, h0, rfl⟩ := hA
  refine ⟨_, (pss_one (ps_ret (pe_and (pe_callB (k_isi (K := K) rfl) (by rfl) T.b_isinstance (by decide +kernel) (pa_cons (pv 0) (pa_cons (pe_bltn (v := .ty "int") (u := .type "int") (by rfl) T.b_int (by decide +kernel) rfl) pa_nil))) (pe_one (pe_not (pe_callB (k_isi (K := K) rfl) (by rfl) T.b_isinstance (by decide +kernel) (pa_cons (pv 0) (pa_cons (pe_bltn (v := .ty "bool") (u := .type "bool") (by rfl) T.b_bool (by decide +kernel) rfl) pa_nil)))))))), ?_⟩
  exact c_ret (Stp.refl x0) (es_wholeTh x0 rfl h0) fun w y B2 H2 s hy hR => q w y B2 H2 s hy hR
theorem d_comes_inH (F0 : FunAt K mg "comes_in" s_comes_in) (T : Txt K mg) (G_is_wholeTH : DefOkH P w K mg base 1 "is_whole" ["thing"] sp_wholeT) : DefOkH P w K mg base 2 "comes_in" ["roads", "thing", "place"] sp_comes := by
  refine mk_defH (k := 1) F0 sc_comes_in (fun _ _ _ _ _ _ us hl => match us, hl with | [_, _, _], _ => rfl) (fun _ => (lenC (lenC (lenC lenN)))) ?_
  intro f cdv A0 outer s E i B H vs Q pp hc hr x0 hA hp q
  obtain ⟨v0, _, _, rfl, rfl, h0, v1, _, _, rfl, rfl, h1, v2, _, _, rfl, rfl, h2, rfl⟩ := hA
  obtain ⟨y0, y1, y2⟩ := i
  (try dsimp only at h0); (try dsimp only at h1); (try dsimp only at h2); (try dsimp only at hp); (try dsimp only at q)
  refine ⟨_, (pss_one (ps_ret (pe_and (pe_callDH G_is_wholeTH (hr.mono (by decide)) hc (by rfl) (pa_cons (pv 1) pa_nil)) (pe_and (pe_chain op_le op_lt pe_int (pv 1) (pe_callB (k_len (K := K) rfl) (by rfl) T.b_len (by decide +kernel) (pa_cons (pv 0) pa_nil))) (pe_one (pe_cmpR op_eq (pe_ix (k_ixt (K := K) rfl) (pe_ix (k_ixl (K := K) rfl) (pv 0) (pv 1) (fun _ _ => rfl)) pe_int (fun _ _ => rfl)) (pv 2) (nomark _))))))), ?_⟩
  cases h2
  have w1 : ∀ {S' : Bool → Prop}, S' y1.isInt → EvS eB (tCall sp_wholeT [] E0 (tCons (tVar 1) tNil)) _ B H S' := fun {S'} hS => EvS.imp (es_call y1 x0 (ea_c x0 mono_aN (es_var (E := eTh) (i := 1) (σ := [some v0, some v1, some (V.int y2)]) x0 rfl h1) (ea_n x0)) True.intro) fun y hy => (by rw [show y = _ from hy]; exact hS)
  cases y1 with
  | non => exact c_ret (Stp.refl x0) (es_andV (a := false) (b := false) x0 (w1 rfl) fun z => by cases z) fun w y B2 H2 s hy hR => q w y B2 H2 s hy hR
  | no => exact c_ret (Stp.refl x0) (es_andV (a := false) (b := false) x0 (w1 rfl) fun z => by cases z) fun w y B2 H2 s hy hR => q w y B2 H2 s hy hR
  | int n =>
    have h1' : v1 = .int n := h1
    subst h1'
    refine c_ret (Stp.refl x0) (es_andV (a := true) x0 (w1 rfl) fun _ => es_andV x0 (es_chain (b1 := decide (0 ≤ n)) (b2 := decide (n < (y0.length : Int))) x0 (es_int x0) (es_varI (i := 1) x0 rfl) (es_lenL x0 (es_var (E := eL eR) (i := 0) x0 rfl h0)) (fun v w B2 H2 hv hw Q q => ⟨_, _, hv, hw, q⟩) (fun v w B2 H2 hv hw Q q => ⟨_, _, hv, hw, q⟩)) fun hb => es_eqI (x := (y0.getD n.toNat (0, 0, 0)).2.1) x0 ?_ (es_varI (i := 2) x0 rfl)) fun w y B2 H2 s hy hR => q w y B2 H2 s ?_ hR
    · simp only [Bool.and_eq_true, decide_eq_true_eq] at hb
      have hn : n.toNat < y0.length := by omega
      have hr := List.getElem?_eq_getElem hn
      rw [List.getD_eq_getElem?_getD, hr]
      exact es_31 (t := y0[n.toNat]) x0 (es_ixL x0 (es_var (i := 0) x0 rfl h0) (es_varI (i := 1) x0 rfl) hb.1 hr)
    · rw [hy]
      show (true && ((decide (0 ≤ n) && decide (n < (y0.length : Int))) && decide ((y0.getD n.toNat (0, 0, 0)).2.1 = y2))) = (decide (0 ≤ n) && decide (n < (y0.length : Int)) && decide ((y0.getD n.toNat (0, 0, 0)).2.1 = y2))
      rfl
theorem d_hangs_togetherH (F0 : FunAt K mg "hangs_together" s_hangs_together) (T : Txt K mg)  : DefOkH P w K mg base 1 "hangs_together" ["roads", "root", "tree"] sp_hang := by
  refine mk_defH (k := 0) F0 sc_hangs_together (fun _ _ _ _ _ _ us hl => match us, hl with | [_, _, _], _ => rfl) (fun _ => (lenC (lenC (lenC lenN)))) ?_
  intro f cdv A0 outer s E i B H vs Q pp hc hr x0 hA hp q
  obtain ⟨v0, _, _, rfl, rfl, h0, v1, _, _, rfl, rfl, h1, v2, _, _, rfl, rfl, h2, rfl⟩ := hA
  obtain ⟨y0, y1, y2⟩ := i
  (try dsimp only at h0); (try dsimp only at h1); (try dsimp only at h2); (try dsimp only at hp); (try dsimp only at q)
  refine ⟨_, (pss_cons (ps_set (i := 3) sc_hangs_together.nd rfl (by first | exact Or.inl rfl | exact Or.inr rfl) (pe_disp (pps_cons (pv 1) pe_bl pps_nil) (by rfl) (by rfl) (fun z => by cases z) (by decide)))
      (pss_cons (ps_forH PassesOwn.never hc (pi_range1H (by rfl) T.b_range (pa_cons (pe_callB (k_len (K := K) rfl) (by rfl) T.b_len (by decide +kernel) (pa_cons (pv 2) pa_nil)) pa_nil)) (pg_name (i := 4) sc_hangs_together.nd rfl (by first | exact Or.inl rfl | exact Or.inr rfl)) (pss_cons (ps_set (i := 5) sc_hangs_together.nd rfl (by first | exact Or.inl rfl | exact Or.inr rfl) (pe_lst pa_nil))
      (pss_cons (ps_set (i := 6) sc_hangs_together.nd rfl (by first | exact Or.inl rfl | exact Or.inr rfl) (pv 4))
      (pss_cons (ps_while PassesOwn.never (pw_and (pt_cmp (pc_dnotin (huH hr) (pv 6) (pv 3)) (by rfl)) (pw_and1 (pt_cmpR (k_notin (K := K) rfl) (pv 6) (pv 5) (by rfl)))).pt (pss_cons (ps_expr (pe_bm PySem.F.plainAttrs_list PySem.F.slot_list_append PySem.F.type_list_append mt_append (pv 5) (pa_cons (pv 6) pa_nil)))
      (pss_one (ps_set (i := 6) sc_hangs_together.nd rfl (by first | exact Or.inl rfl | exact Or.inr rfl) (pe_ix (k_ixt (K := K) rfl) (pe_ix (k_ixl (K := K) rfl) (pv 0) (pe_ix (k_ixl (K := K) rfl) (pv 2) (pv 6) (fun _ _ => rfl)) (fun _ _ => rfl)) pe_int (fun _ _ => rfl))))))
      (pss_cons (ps_if (pt_cmp (pc_dnotin (huH hr) (pv 6) (pv 3)) (by rfl)) (pss_one (ps_ret pe_bl)) pss_nil)
      (pss_one (ps_forH PassesOwn.never hc (pi_listH (pv 5)) (pg_name (i := 7) sc_hangs_together.nd rfl (by first | exact Or.inl rfl | exact Or.inr rfl)) (pss_one (ps_dput (huH hr) (pv 3) (pv 7) pe_bl rfl)))))))))
      (pss_one (ps_ret pe_bl)))), ?_⟩
  cases h1
  obtain ⟨m, hP⟩ := hp
  obtain ⟨hnet, hr0, hr1, htl, hin⟩ := hP
  have hm12 := hnet.hi
  have hm1 := hnet.lo
  have hg : ∀ v, 0 ≤ v → v < m → 0 ≤ goB y0 y2 y1 v ∧ goB y0 y2 y1 v < m := fun v a b => goB_in hnet.ok hr0 hr1 hin a b
  have hgr := goB_root y0 y2 y1
  have hback : ∀ v, 0 ≤ v → v < m → v ≠ y1 → ∃ n r, y2[v.toNat]? = some (.int n) ∧ 0 ≤ n ∧ y0[n.toNat]? = some r ∧ goB y0 y2 y1 v = r.1 := fun v a b c => back_next c (hin v a b c)
  generalize goB y0 y2 y1 = g at hg hgr hback q
  refine q_disp1 (i := 3) (Stp.refl x0) (es_varI (i := 1) x0 rfl) (v := .bl true) ev_c fun lm H1 nl e1 s1 cm => ?_
  have x1 := s1.bh
  have hS0 : Safe m y1 g [y1] := ⟨by simp, List.mem_singleton.mpr rfl, fun k hk => by rw [List.mem_singleton.mp hk]; exact ⟨hr0, hr1⟩, fun k hk => ⟨0, List.mem_singleton.mp hk⟩⟩
  refine q_forR (es_lenL x1 (es_var (E := eL eTh) (i := 2) x1 rfl h2)) ⟨by omega, by omega⟩ (fun i σ' H' => ∃ a b c d B' kvs ks, σ' = [some v0, some (.int y1), some v2, some (.ref lm), a, b, c, d] ∧ Stp B H B' H' ∧ Cell H B' H' lm (.dK kvs) ∧ kvs.map (·.1) = ks.map Sum.inl ∧ Safe m y1 g ks ∧ ∀ v : Int, 0 ≤ v → v < (i : Nat) → v ∈ ks)
    (fun H2 e2 => ⟨none, none, none, none, B, _, [y1], rfl, s1.goH e2, cm.go e2, rfl, hS0, fun v a b => by omega⟩) (fun i σ' H' hi w => ?_) (fun σ' H' w => ?_)
  · clear cm s1 x1 e1 nl
    obtain ⟨a, b, c, d, B', kvs, ks, rfl, s, cm, hk, hS, hall⟩ := w
    have him : (i : Int) < m := by omega
    refine q_setM (i := 5) (em_nil (E := eI) s.bh) fun lr vs xs B3 H3 s3 nr br hlr hx hR => ?_
    cases hx
    cases hR
    have cr : Cell H B3 H3 lr (.lst ((rowOf g i 0).map V.int)) := ⟨fresh_back s.eh nr, br, hlr⟩
    have hne : lm ≠ lr := cm.neN nr
    replace cm := cm.up s3
    replace s := s.trans s3
    clear nr br hlr s3
    refine q_setI (i := 6) (n := itn g 0 i) (B := B3) (es_varI (i := 4) s.bh rfl) fun H4 e4 => ?_
    replace cm := cm.go e4
    replace cr := cr.go e4
    replace s := s.goH e4
    have hno0 : ∀ j, j < 0 → itn g j i ≠ y1 := fun j hj => absurd hj (Nat.not_lt_zero _)
    refine q_while (W := fun n σ' H' => ∃ L, σ' = [some v0, some (.int y1), some v2, some (.ref lm), some (.int i), some (.ref lr), some (.int (itn g L i)), d] ∧ Stp B H B3 H' ∧ Cell H B3 H' lm (.dK kvs) ∧ Cell H B3 H' lr (.lst ((rowOf g i L).map V.int)) ∧ (rowOf g i L).Nodup ∧ (∀ v ∈ rowOf g i L, ¬ v ∈ ks) ∧ n + L = 12) 12
      ⟨0, rfl, s, cm, cr, List.nodup_nil, (fun v hv => by cases hv), rfl⟩ (fun n σ' H' w => ?_)
    clear cm cr s e4
    obtain ⟨L, rfl, s, cm, cr, hnd, hns, hn⟩ := w
    have xH := Ex.refl H'
    have hm := itn_in hg (Int.natCast_nonneg i) him L
    have hL12 : L ≤ 12 := by
      have := nodup_le (n := m.toNat) hnd fun v hv => by
        obtain ⟨j, _, e⟩ := mem_rowOf.mp hv
        have := itn_in hg (Int.natCast_nonneg i) him j
        omega
      rw [rowOf_len] at this
      omega
    have hkl := hS.len hm12
    have hkv : kvs.length = ks.length := by
      have := congrArg List.length hk
      rw [List.length_map, List.length_map] at this
      exact this
    refine ⟨!decide (itn g L i ∈ ks) && !decide (itn g L i ∈ rowOf g i L), et_and (et_sB (es_dnotin xH (es_varI (i := 6) xH rfl) (es_var (i := 3) xH rfl (cell_D cm hk)))) fun _ => et_sT (es_ninL xH (es_varI (i := 6) xH rfl) (es_var (E := eL eI) (i := 5) xH rfl (cell_L cr (pI' _)))), fun hb H5 e5 => ?_, fun hb H5 e5 => ?_⟩
    · simp only [Bool.and_eq_true, Bool.not_eq_true', decide_eq_false_iff_not] at hb
      obtain ⟨hb1, hb2⟩ := hb
      replace cm := cm.go e5
      replace cr := cr.go e5
      replace s := s.goH e5
      refine ⟨fun σ' H' => ∃ L', σ' = [some v0, some (.int y1), some v2, some (.ref lm), some (.int i), some (.ref lr), some (.int (itn g L' i)), d] ∧ Stp B H B3 H' ∧ Cell H B3 H' lm (.dK kvs) ∧ Cell H B3 H' lr (.lst ((rowOf g i L').map V.int)) ∧ (rowOf g i L').Nodup ∧ (∀ v ∈ rowOf g i L', ¬ v ∈ ks) ∧ n + L' = 13,
        fun σ2 H6 ⟨L', r1, r2, r3, r4, r5, r6, r7⟩ => (by
          have h9 : L' ≤ 12 := by
            have := nodup_le (n := m.toNat) r5 fun v hv => by
              obtain ⟨j, _, e⟩ := mem_rowOf.mp hv
              have := itn_in hg (Int.natCast_nonneg i) him j
              omega
            rw [rowOf_len] at this
            omega
          exact ⟨12 - L', by omega, L', r1, r2, r3, r4, r5, r6, by omega⟩), ?_⟩
      have hner : itn g L i ≠ y1 := fun e => hb1 (by rw [e]; exact hS.hr)
      obtain ⟨nn, r, k1, k2, k3, k4⟩ := hback _ hm.1 hm.2 hner
      refine c_appI (D := { nx := _, rt := _, bk := _, ct := _ }) (i := 5) cr s rfl (by rw [List.length_map, rowOf_len]; omega) (es_varI (i := 6) s.bh rfl) fun H6 s6 cr6 oth6 => ?_
      have cm6 := oth6 lm _ hne cm
      have x6 := s6.bh
      refine s_asg (i := 6) (v := .int (itn g (L + 1) i)) (ev_sI (B := B3) ((es_30 (t := r) x6 (es_ixL (E := eR) (i := nn) x6 (es_var (i := 0) x6 rfl (Enc.up _ s6.eb h0)) (es_thI (es_ixL (E := eTh) (x := Th.int nn) x6 (es_var (i := 2) x6 rfl (Enc.up _ s6.eb h2)) (es_varI (i := 6) x6 rfl) hm.1 k1)) k2 k3)).to k4.symm)) fun H7 e7 => ?_
      refine ⟨L + 1, rfl, s6.goH e7, cm6.go e7, ?_, ?_, ?_, by omega⟩
      · rw [rowOf_succ, map_snoc]
        exact cr6.go e7
      · rw [rowOf_succ]
        exact nd_snoc hnd hb2
      · intro v hv
        rw [rowOf_succ] at hv
        rcases List.mem_append.mp hv with z | z
        · exact hns v z
        · rw [List.mem_singleton.mp z]
          exact hb1
    · replace cm := cm.go e5
      replace cr := cr.go e5
      replace s := s.goH e5
      clear xH
      have xH := Ex.refl H5
      refine q_when (et_sB (es_dnotin xH (es_varI (i := 6) xH rfl) (es_var (i := 3) xH rfl (cell_D cm hk)))) (fun hb2 H6 e6 => ?_) (fun hb2 H6 e6 => ?_)
      · have hnk : ¬ itn g L i ∈ ks := by simpa using hb2
        have hin2 : itn g L i ∈ rowOf g i L := by
          simp only [Bool.and_eq_false_iff, Bool.not_eq_false', decide_eq_true_eq] at hb
          exact hb.resolve_left hnk
        obtain ⟨j, hj, ej⟩ := mem_rowOf.mp hin2
        have hno : ∀ k, itn g k i ≠ y1 := itn_ring hj (fun j' hj' e => hns _ (mem_rowOf.mpr ⟨j', hj', rfl⟩) (by rw [e]; exact hS.hr)) ej.symm
        refine c_ret (s.goH e6) (es_bl (s.goH e6).bh) fun w y B2 H2 s2 hy hR => q w y B2 H2 s2 (fun mm hmm => ⟨fun z => (by rw [hy] at z; cases z), fun z => absurd (z i (by omega) ?_) (hno mm)⟩) hR
        rw [show (mm : Int) = m by rw [← hmm, htl]; omega]
        exact him
      · have hik : itn g L i ∈ ks := by simpa using hb2
        replace cm := cm.go e6
        replace cr := cr.go e6
        replace s := s.goH e6
        clear xH
        obtain ⟨B4, s4, eb4, hRr, oth4⟩ := cell_pub (E := eI) cr s (pI' _)
        have cm4 := oth4 lm _ hne cm
        have hrow : ∀ v ∈ rowOf g i L, 0 ≤ v ∧ v < m ∧ ∃ j, itn g j v = y1 := fun v hv => by
          obtain ⟨j, hj, e⟩ := mem_rowOf.mp hv
          have := itn_in hg (Int.natCast_nonneg i) him j
          rw [e] at this
          obtain ⟨k, hk⟩ := hS.ok _ hik
          refine ⟨this.1, this.2, k + (L - j), ?_⟩
          have h9 : itn g (L - j) v = itn g L i := by
            rw [← e, ← itn_add, show L - j + j = L by omega]
          rw [itn_add, h9]
          exact hk
        refine c_forE (E := eI) s4.bh ⟨_, ev_var (i := 5) rfl, hRr⟩ (fun j σ' H' => ∃ d kvs ks', σ' = [some v0, some (.int y1), some v2, some (.ref lm), some (.int i), some (.ref lr), some (.int (itn g L i)), d] ∧ Stp B H B4 H' ∧ Cell H B4 H' lm (.dK kvs) ∧ kvs.map (·.1) = ks'.map Sum.inl ∧ Safe m y1 g ks' ∧ (∀ v ∈ ks, v ∈ ks') ∧ ∀ v ∈ (rowOf g i L).take j, v ∈ ks')
          (fun H7 e7 => ⟨d, kvs, ks, rfl, s4.goH e7, cm4.go e7, hk, hS, fun v hv => hv, fun v hv => by cases hv⟩) (fun j σ' H' ⟨_, _, _, _, s, _⟩ => s.bh) (fun j x v σ' H' hj hv w => ?_) (fun σ' H' w => ?_)
        · obtain ⟨d, kvs', ks', rfl, s7, c7, hk7, hS7, hsub, htk⟩ := w
          cases hv
          have hx := hrow x (List.mem_of_getElem? hj)
          have hkl7 := hS7.len hm12
          have hkv7 : kvs'.length = ks'.length := by
            have := congrArg List.length hk7
            rw [List.length_map, List.length_map] at this
            exact this
          refine c_dput (i := 3) c7 hk7 s7 (by omega) (v := .bl true) ev_c rfl (es_varI (i := 7) s7.bh rfl) fun H8 kvs8 s8 c8 hk8 _ => ⟨_, kvs8, addK ks' x, rfl, s8, c8, hk8, hS7.add hx.1 hx.2.1 hx.2.2, fun v hv => mem_addK.mpr (.inl (hsub v hv)), fun v hv => ?_⟩
          rw [take_next hj] at hv
          rcases List.mem_append.mp hv with z | z
          · exact mem_addK.mpr (.inl (htk v z))
          · exact mem_addK.mpr (.inr (List.mem_singleton.mp z))
        · obtain ⟨d, kvs', ks', rfl, s7, c7, hk7, hS7, hsub, htk⟩ := w
          refine ⟨_, _, _, d, B4, kvs', ks', rfl, s7, c7, hk7, hS7, fun v v0 v1 => ?_⟩
          by_cases e : v = i
          · subst e
            cases L with
            | zero => exact hsub _ hik
            | succ L =>
              rw [List.take_length] at htk
              exact htk _ (mem_rowOf.mpr ⟨0, Nat.succ_pos _, rfl⟩)
          · exact hsub v (hall v v0 (by omega))
  · obtain ⟨a, b, c, d, B', kvs, ks, rfl, s, cm, hk, hS, hall⟩ := w
    refine c_ret s (es_bl s.bh) fun w y B2 H2 s2 hy hR => q w y B2 H2 s2 (fun mm hmm => ⟨fun _ v v0 v1 => ?_, fun _ => hy⟩) hR
    have hmm' : (mm : Int) = m := by rw [← hmm, htl]; omega
    have := itn_most hgr hr0 hr1 hg v0 (by omega) (hS.ok v (hall v v0 (by rw [Int.toNat_natCast, hmm]; exact v1)))
    rw [show m.toNat = mm by omega] at this
    exact this
theorem d_standsH (F0 : FunAt K mg "stands" s_stands) (T : Txt K mg) (G_comes_inH : DefOkH P w K mg base 2 "comes_in" ["roads", "thing", "place"] sp_comes) (G_hangs_togetherH : DefOkH P w K mg base 1 "hangs_together" ["roads", "root", "tree"] sp_hang) : DefOkH P w K mg base 3 "stands" ["many", "roads", "root", "tree"] sp_stands := by
  refine mk_defH (k := 2) F0 sc_stands (fun _ _ _ _ _ _ us hl => match us, hl with | [_, _, _, _], _ => rfl) (fun _ => (lenC (lenC (lenC (lenC lenN))))) ?_
  intro f cdv A0 outer s E i B H vs Q pp hc hr x0 hA hp q
  obtain ⟨v0, _, _, rfl, rfl, h0, v1, _, _, rfl, rfl, h1, v2, _, _, rfl, rfl, h2, v3, _, _, rfl, rfl, h3, rfl⟩ := hA
  obtain ⟨y0, y1, y2, y3⟩ := i
  (try dsimp only at h0); (try dsimp only at h1); (try dsimp only at h2); (try dsimp only at h3); (try dsimp only at hp); (try dsimp only at q)
  refine ⟨_, (pss_cons (ps_if (pw_or (pt_cmpR op_ne (pe_callB (k_len (K := K) rfl) (by rfl) T.b_len (by decide +kernel) (pa_cons (pv 3) pa_nil)) (pv 0) (nomark _)) (pw_or1 (pt_cmpR op_notN (pe_ix (k_ixl (K := K) rfl) (pv 3) (pv 2) (fun _ _ => rfl)) pe_non (nomark _)))).pt (pss_one (ps_ret pe_bl)) pss_nil)
      (pss_cons (ps_forH PassesOwn.never hc (pi_range1H (by rfl) T.b_range (pa_cons (pv 0) pa_nil)) (pg_name (i := 4) sc_stands.nd rfl (by first | exact Or.inl rfl | exact Or.inr rfl)) (pss_one (ps_if (pw_and (pt_cmpR op_ne (pv 4) (pv 2) (nomark _)) (pw_and1 (pt_not (pt_val (pe_callDH G_comes_inH (hr.mono (by decide)) hc (by rfl) (pa_cons (pv 1) (pa_cons (pe_ix (k_ixl (K := K) rfl) (pv 3) (pv 4) (fun _ _ => rfl)) (pa_cons (pv 4) pa_nil)))))))).pt (pss_one (ps_ret pe_bl)) pss_nil)))
      (pss_one (ps_ret (pe_callDH G_hangs_togetherH (hr.mono (by decide)) hc (by rfl) (pa_cons (pv 1) (pa_cons (pv 2) (pa_cons (pv 3) pa_nil)))))))), ?_⟩
  cases h0
  cases h2
  obtain ⟨hnet, hr0, hr1, htl⟩ := hp
  have hm12 := hnet.hi
  have hm1 := hnet.lo
  have no : ∀ {σ : L2.St} {B' H' : Hp} {D : Ends}, Stp B H B' H' → D.rt = Q → ¬ IsTree y0 y1 y2 y3 → tRet (tC (.bl false)) D σ H' := fun s e h => c_ret s (es_bl s.bh) fun w y B2 H2 s hy hR => by
    rw [e]
    exact q w y B2 H2 s ⟨fun h => (by rw [hy] at h; cases h), fun z => absurd z h⟩ hR
  by_cases hlen : y3.length = y0.toNat
  · have hrl : y2.toNat < y3.length := by omega
    have hx := List.getElem?_eq_getElem hrl
    generalize y3[y2.toNat] = tr at hx
    refine q_when (et_or (a := false) (et_is (et_sT (es_neI x0 (es_lenL x0 (es_var (E := eL eTh) (i := 3) x0 rfl h3)) (es_varI (i := 0) x0 rfl))) (by rw [decide_eq_true (by omega)]; rfl)) fun _ => et_sT (es_notNTh x0 (es_ixL (E := eTh) x0 (es_var (i := 3) x0 rfl h3) (es_varI (i := 2) x0 rfl) hr0 hx))) (fun hb H1 e1 => ?_) (fun hb H1 e1 => ?_)
    · refine no (Stp.go x0 e1) rfl fun hI => ?_
      have := hI.rt
      rw [hx] at this
      cases this
      cases hb
    have htr : tr = .non := by
      cases tr with
      | non => rfl
      | int n => cases hb
      | no => cases hb
    subst htr
    have s1 : Stp B H B H1 := Stp.go x0 e1
    have x1 := s1.bh
    refine q_forR (es_varI (i := 0) x1 rfl) ⟨by omega, by omega⟩ (fun i σ' H' => ∃ a B', σ' = [some (.int y0), some v1, some (.int y2), some v3, a] ∧ Stp B H B' H' ∧ ∀ v : Int, 0 ≤ v → v < (i : Nat) → v ≠ y2 → InT y1 y3 v)
      (fun H2 e2 => ⟨none, B, rfl, s1.goH e2, fun v a b => by omega⟩) (fun i σ' H' hi w => ?_) (fun σ' H' w => ?_)
    · obtain ⟨a, B', rfl, s, hA⟩ := w
      have x2 := s.bh
      have hil : i < y3.length := by omega
      have hxi := List.getElem?_eq_getElem hil
      generalize y3[i] = th at hxi
      refine s_when (b := !decide ((i : Int) = y2) && !comesTh y1 th i) (et_and (et_sT (es_neI x2 (es_varI (i := 4) x2 rfl) (es_varI (i := 2) x2 rfl))) fun _ => et_not (et_sB (es_call (y1, th, (i : Int)) x2 (ea_c x2 (mono_aC (mono_aC mono_aN)) (es_var (E := eL eR) (i := 1) x2 rfl (Enc.up _ s.eb h1)) (ea_c x2 (mono_aC mono_aN) (es_ixL (E := eTh) (i := (i : Int)) x2 (es_var (i := 3) x2 rfl (Enc.up _ s.eb h3)) (es_varI (i := 4) x2 rfl) (by omega) (by rw [Int.toNat_natCast]; exact hxi)) (ea_c x2 mono_aN (es_varI (i := 4) x2 rfl) (ea_n x2)))) True.intro))) (fun hb H5 e5 => ?_) (fun hb H5 e5 => ⟨_, B', rfl, s.goH e5, fun v v0 v1 v2 => ?_⟩)
      · simp only [Bool.and_eq_true, Bool.not_eq_true', decide_eq_false_iff_not] at hb
        refine no (s.goH e5) rfl fun hI => ?_
        obtain ⟨n, r, k1, k2, k3, k4⟩ := hI.inn i (by omega) hi hb.1
        rw [Int.toNat_natCast, hxi] at k1
        cases k1
        have hc : comesTh y1 (.int n) i = true := by
          show (decide (0 ≤ n) && decide (n < (y1.length : Int)) && decide ((y1.getD n.toNat (0, 0, 0)).2.1 = (i : Int))) = true
          have := (List.getElem?_eq_some_iff.mp k3).1
          rw [decide_eq_true k2, decide_eq_true (by omega), List.getD_eq_getElem?_getD, k3]
          exact decide_eq_true k4
        rw [hc] at hb
        cases hb.2
      · by_cases e : v = i
        · subst e
          rw [decide_eq_false v2] at hb
          have hc : comesTh y1 th i = true := by simpa using hb
          cases th with
          | non => cases hc
          | no => cases hc
          | int n =>
            have hc : (decide (0 ≤ n) && decide (n < (y1.length : Int)) && decide ((y1.getD n.toNat (0, 0, 0)).2.1 = (i : Int))) = true := hc
            simp only [Bool.and_eq_true, decide_eq_true_eq] at hc
            obtain ⟨⟨c1, c2⟩, c3⟩ := hc
            have hn : n.toNat < y1.length := by omega
            have hr := List.getElem?_eq_getElem hn
            rw [List.getD_eq_getElem?_getD, hr] at c3
            exact ⟨n, _, by rw [Int.toNat_natCast]; exact hxi, c1, hr, c3⟩
        · exact hA v v0 (by omega) v2
    · obtain ⟨a, B', rfl, s, hA⟩ := w
      have x2 := s.bh
      have hin : ∀ v, 0 ≤ v → v < y0 → v ≠ y2 → InT y1 y3 v := fun v a b c => hA v a (by omega) c
      refine c_ret s (es_call (y1, y2, y3) x2 (ea_c x2 (mono_aC (mono_aC mono_aN)) (es_var (E := eL eR) (i := 1) x2 rfl (Enc.up _ s.eb h1)) (ea_c x2 (mono_aC mono_aN) (es_varI (i := 2) x2 rfl) (ea_c x2 mono_aN (es_var (E := eL eTh) (i := 3) x2 rfl (Enc.up _ s.eb h3)) (ea_n x2)))) ⟨y0, hnet, hr0, hr1, hlen, hin⟩) fun w y B2 H2 s2 hy hR => q w y B2 H2 s2 ?_ hR
      have hy := hy y0.toNat hlen
      rw [hy]
      constructor
      · intro h
        exact ⟨hlen, hx, hin, fun v a b => h v a (by omega)⟩
      · intro h v a b
        exact h.back v a (by omega)
  · refine q_when (et_or (a := true) (b := true) (et_is (et_sT (es_neI x0 (es_lenL x0 (es_var (E := eL eTh) (i := 3) x0 rfl h3)) (es_varI (i := 0) x0 rfl))) (by rw [decide_eq_false (by omega)]; rfl)) fun z => by cases z) (fun hb H1 e1 => ?_) (fun hb => by cases hb)
    exact no (Stp.go x0 e1) rfl fun hI => hlen hI.len
end
end RR
namespace RR
open PySem L2 Evl PyProof.Rows L2H RRH
section
variable {P : Program} {w : World} {K : PySem.W.Frag} {mg : Str → Option Value} {base : Heap} {C_BadTree C_RoadError : Addr}

abbrev sp_wayR (C : Addr) : Sp := SpecR (ar5 eI (eL eR) eI (eL eTh) eI) (fun i => Net i.1 i.2.1 ∧ 0 ≤ i.2.2.1 ∧ i.2.2.1 < i.1 ∧ 0 ≤ i.2.2.2.2 ∧ i.2.2.2.2 < i.1 ∧ i.2.2.2.1.length ≤ 100 ∧ ¬ IsTree i.1 i.2.1 i.2.2.1 i.2.2.2.1) (fun _ => C)
theorem d_wayRN (F0 : FunAt K mg "way" s_way) (T : Txt K mg) (XC_BadTree : ExcT K mg "BadTree" C_BadTree) (G_checked : DefOk P w K mg base 4 "checked" ["many", "roads"] sp_checked) (G_need_place : DefOk P w K mg base 3 "need_place" ["many", "place"] sp_need) (G_stands : DefOk P w K mg base 3 "stands" ["many", "roads", "root", "tree"] sp_stands) : DefOkXN P w K mg base 5 "way" ["many", "roads", "root", "tree", "place"] (sp_wayR C_BadTree) := by
  refine mk_defRN (k := 4) F0 sc_way (fun _ _ _ _ _ _ us hl => match us, hl with | [_, _, _, _, _], _ => rfl) (fun _ => (lenC (lenC (lenC (lenC (lenC lenN)))))) ?_
  intro f cdv A0 outer s E i B H vs Q hr x0 hA hp q
  obtain ⟨v0, _, _, rfl, rfl, h0, v1, _, _, rfl, rfl, h1, v2, _, _, rfl, rfl, h2, v3, _, _, rfl, rfl, h3, v4, _, _, rfl, rfl, h4, rfl⟩ := hA
  obtain ⟨y0, y1, y2, y3, y4⟩ := i
  (try dsimp only at h0); (try dsimp only at h1); (try dsimp only at h2); (try dsimp only at h3); (try dsimp only at h4); (try dsimp only at hp); (try dsimp only at q)
  refine ⟨_, (pss_cons (ps_expr (pe_callD G_checked (hr.mono (by decide)) (by rfl) (pa_cons (pv 0) (pa_cons (pv 1) pa_nil)))) (pss_cons (ps_expr (pe_callD G_need_place (hr.mono (by decide)) (by rfl) (pa_cons (pv 0) (pa_cons (pv 2) pa_nil)))) (pss_cons (ps_expr (pe_callD G_need_place (hr.mono (by decide)) (by rfl) (pa_cons (pv 0) (pa_cons (pv 4) pa_nil)))) (pss_cons (ps_if (pt_not (pt_val (pe_callD G_stands (hr.mono (by decide)) (by rfl) (pa_cons (pv 0) (pa_cons (pv 1) (pa_cons (pv 2) (pa_cons (pv 3) pa_nil))))))) (pss_one (L2N.ps_raise rfl (L2N.takes_of rfl rfl rfl rfl) (L2N.pmk_own PySem.F.excBase_ValueError XC_BadTree.ex XC_BadTree.g XC_BadTree.kp (raises_own XC_BadTree.sb XC_BadTree.ty) rfl))) pss_nil) pss_never)))), ?_⟩
  cases h0
  cases h2
  cases h4
  obtain ⟨hN, r0, r1, p0, p1, hl, hT⟩ := hp
  refine q_dropS (es_call (y0, y1) x0 (ea_c x0 (mono_aC mono_aN) (es_varI (i := 0) x0 rfl) (ea_c x0 mono_aN (es_var (E := eL eR) (i := 1) x0 rfl h1) (ea_n x0))) hN) fun v x B1 H1 s1 _ _ => ?_
  have x1 := s1.bh
  refine q_dropS (es_call (y0, y2) x1 (ea_c x1 (mono_aC mono_aN) (es_varI (i := 0) x1 rfl) (ea_c x1 mono_aN (es_varI (i := 2) x1 rfl) (ea_n x1))) ⟨r0, r1⟩) fun v x B2 H2 s2 _ _ => ?_
  replace s1 := s1.trans s2
  clear x1
  have x1 := s1.bh
  refine q_dropS (es_call (y0, y4) x1 (ea_c x1 (mono_aC mono_aN) (es_varI (i := 0) x1 rfl) (ea_c x1 mono_aN (es_varI (i := 4) x1 rfl) (ea_n x1))) ⟨p0, p1⟩) fun v x B3 H3 s3 _ _ => ?_
  replace s1 := s1.trans s3
  clear x1 s2 s3
  have x1 := s1.bh
  replace h1 := Enc.up _ s1.eb h1
  replace h3 := Enc.up _ s1.eb h3
  refine s_when (b := true) (et_is (et_not (et_sB (es_dec (es_call (y0, y1, y2, y3) x1 (ea_c x1 (mono_aC (mono_aC (mono_aC mono_aN))) (es_varI (i := 0) x1 rfl) (ea_c x1 (mono_aC (mono_aC mono_aN)) (es_var (E := eL eR) (i := 1) x1 rfl h1) (ea_c x1 (mono_aC mono_aN) (es_varI (i := 2) x1 rfl) (ea_c x1 mono_aN (es_var (E := eL eTh) (i := 3) x1 rfl h3) (ea_n x1))))) ⟨hN, r0, r1, hl⟩)))) ?_) (fun hb H4 e4 => q _ H4 (s1.goH e4)) (fun hb => by cases hb)
  show (!pd (IsTree y0 y1 y2 y3)) = true
  rw [pd_false.mpr hT]
  rfl
theorem d_wayRH (F0 : FunAt K mg "way" s_way) (T : Txt K mg) (XC_BadTree : ExcT K mg "BadTree" C_BadTree) (G_checkedH : DefOkH P w K mg base 4 "checked" ["many", "roads"] sp_checked) (G_need_placeH : DefOkH P w K mg base 3 "need_place" ["many", "place"] sp_need) (G_standsH : DefOkH P w K mg base 3 "stands" ["many", "roads", "root", "tree"] sp_stands) : DefOkXH P w K mg base 5 "way" ["many", "roads", "root", "tree", "place"] (sp_wayR C_BadTree) := by
  refine mk_defRH (k := 4) F0 sc_way (fun _ _ _ _ _ _ us hl => match us, hl with | [_, _, _, _, _], _ => rfl) (fun _ => (lenC (lenC (lenC (lenC (lenC lenN)))))) ?_
  intro f cdv A0 outer s E i B H vs Q pp hc hr x0 hA hp q
  obtain ⟨v0, _, _, rfl, rfl, h0, v1, _, _, rfl, rfl, h1, v2, _, _, rfl, rfl, h2, v3, _, _, rfl, rfl, h3, v4, _, _, rfl, rfl, h4, rfl⟩ := hA
  obtain ⟨y0, y1, y2, y3, y4⟩ := i
  (try dsimp only at h0); (try dsimp only at h1); (try dsimp only at h2); (try dsimp only at h3); (try dsimp only at h4); (try dsimp only at hp); (try dsimp only at q)
  refine ⟨_, (pss_cons (ps_expr (pe_callDH G_checkedH (hr.mono (by decide)) hc (by rfl) (pa_cons (pv 0) (pa_cons (pv 1) pa_nil)))) (pss_cons (ps_expr (pe_callDH G_need_placeH (hr.mono (by decide)) hc (by rfl) (pa_cons (pv 0) (pa_cons (pv 2) pa_nil)))) (pss_cons (ps_expr (pe_callDH G_need_placeH (hr.mono (by decide)) hc (by rfl) (pa_cons (pv 0) (pa_cons (pv 4) pa_nil)))) (pss_cons (ps_if (pt_not (pt_val (pe_callDH G_standsH (hr.mono (by decide)) hc (by rfl) (pa_cons (pv 0) (pa_cons (pv 1) (pa_cons (pv 2) (pa_cons (pv 3) pa_nil))))))) (pss_one (ps_raiseH hc (takes_of rfl rfl rfl rfl) (L2N.pmk_own PySem.F.excBase_ValueError XC_BadTree.ex XC_BadTree.g XC_BadTree.kp (raises_own XC_BadTree.sb XC_BadTree.ty) rfl))) pss_nil) pss_never)))), ?_⟩
  cases h0
  cases h2
  cases h4
  obtain ⟨hN, r0, r1, p0, p1, hl, hT⟩ := hp
  refine q_dropS (es_call (y0, y1) x0 (ea_c x0 (mono_aC mono_aN) (es_varI (i := 0) x0 rfl) (ea_c x0 mono_aN (es_var (E := eL eR) (i := 1) x0 rfl h1) (ea_n x0))) hN) fun v x B1 H1 s1 _ _ => ?_
  have x1 := s1.bh
  refine q_dropS (es_call (y0, y2) x1 (ea_c x1 (mono_aC mono_aN) (es_varI (i := 0) x1 rfl) (ea_c x1 mono_aN (es_varI (i := 2) x1 rfl) (ea_n x1))) ⟨r0, r1⟩) fun v x B2 H2 s2 _ _ => ?_
  replace s1 := s1.trans s2
  clear x1
  have x1 := s1.bh
  refine q_dropS (es_call (y0, y4) x1 (ea_c x1 (mono_aC mono_aN) (es_varI (i := 0) x1 rfl) (ea_c x1 mono_aN (es_varI (i := 4) x1 rfl) (ea_n x1))) ⟨p0, p1⟩) fun v x B3 H3 s3 _ _ => ?_
  replace s1 := s1.trans s3
  clear x1 s2 s3
  have x1 := s1.bh
  replace h1 := Enc.up _ s1.eb h1
  replace h3 := Enc.up _ s1.eb h3
  refine s_when (b := true) (et_is (et_not (et_sB (es_dec (es_call (y0, y1, y2, y3) x1 (ea_c x1 (mono_aC (mono_aC (mono_aC mono_aN))) (es_varI (i := 0) x1 rfl) (ea_c x1 (mono_aC (mono_aC mono_aN)) (es_var (E := eL eR) (i := 1) x1 rfl h1) (ea_c x1 (mono_aC mono_aN) (es_varI (i := 2) x1 rfl) (ea_c x1 mono_aN (es_var (E := eL eTh) (i := 3) x1 rfl h3) (ea_n x1))))) ⟨hN, r0, r1, hl⟩)))) ?_) (fun hb H4 e4 => q _ H4 (s1.goH e4)) (fun hb => by cases hb)
  show (!pd (IsTree y0 y1 y2 y3)) = true
  rw [pd_false.mpr hT]
  rfl

abbrev sp_refused : Sp := Spec (ar5 eI (eL eR) eI (eL eTh) eI) (fun i => Net i.1 i.2.1 ∧ 0 ≤ i.2.2.1 ∧ i.2.2.1 < i.1 ∧ 0 ≤ i.2.2.2.2 ∧ i.2.2.2.2 < i.1 ∧ i.2.2.2.1.length ≤ 100 ∧ ¬ IsTree i.1 i.2.1 i.2.2.1 i.2.2.2.1) eB (fun _ y => y = true)
theorem d__law_refusedH (F0 : FunAt K mg "_law_refused" s__law_refused) (T : Txt K mg) (XC_RoadError : ExcT K mg "RoadError" C_RoadError) (S_BadTree_RoadError : PySem.W.subIn K (.ref C_BadTree) (.ref C_RoadError) = some true) (XV_BadTree : ExcV K C_BadTree) (G_wayRH : DefOkXH P w K mg base 5 "way" ["many", "roads", "root", "tree", "place"] (sp_wayR C_BadTree)) : DefOkH P w K mg base 6 "_law_refused" ["_law_many_here", "_law_roads", "_law_root", "_law_tree", "_law_place"] sp_refused := by
  refine mk_defH (k := 5) F0 sc__law_refused (fun _ _ _ _ _ _ us hl => match us, hl with | [_, _, _, _, _], _ => rfl) (fun _ => (lenC (lenC (lenC (lenC (lenC lenN)))))) ?_
  intro f cdv A0 outer s E i B H vs Q pp hc hr x0 hA hp q
  obtain ⟨v0, _, _, rfl, rfl, h0, v1, _, _, rfl, rfl, h1, v2, _, _, rfl, rfl, h2, v3, _, _, rfl, rfl, h3, v4, _, _, rfl, rfl, h4, rfl⟩ := hA
  obtain ⟨y0, y1, y2, y3, y4⟩ := i
  (try dsimp only at h0); (try dsimp only at h1); (try dsimp only at h2); (try dsimp only at h3); (try dsimp only at h4); (try dsimp only at hp); (try dsimp only at q)
  refine ⟨_, (pss_cons (ps_try_asH (i := 5) rfl rfl sc__law_refused.nd rfl rfl ⟨rfl, by decide, .inl XC_RoadError.g⟩ takes0 (fun W pn xe hsub tk _ => (pss_one (ps_expr (pe_callTH G_wayRH (hr.mono (by decide)) (HotC.tr hc hsub) (by rfl) tk (pa_cons (pv 0) (pa_cons (pv 1) (pa_cons (pv 2) (pa_cons (pv 3) (pa_cons (pv 4) pa_nil))))))))) (fun a oe cls d pn hz hf => (pss_one (ps_ret (pe_callB (call_isV hz hf) (by rfl) T.b_isinstance (by decide +kernel) (pa_cons (pv 5) (pa_cons (pe_bltn (v := .ty "ValueError") (u := .type "ValueError") (by rfl) T.b_ValueError (by decide +kernel) rfl) pa_nil)))))))
      (pss_one (ps_ret pe_bl))), ?_⟩
  cases h0
  cases h2
  cases h4
  have fin : ∀ B2 H2, Stp B H B2 H2 → Q (.bl true) H2 := fun B2 H2 s => q _ true B2 H2 s rfl rfl
  exact x_callS (y0, y1, y2, y3, y4) (ea_c x0 (mono_aC (mono_aC (mono_aC (mono_aC mono_aN)))) (es_varI (i := 0) x0 rfl) (ea_c x0 (mono_aC (mono_aC (mono_aC mono_aN))) (es_var (E := eL eR) (i := 1) x0 rfl h1) (ea_c x0 (mono_aC (mono_aC mono_aN)) (es_varI (i := 2) x0 rfl) (ea_c x0 (mono_aC mono_aN) (es_var (E := eL eTh) (i := 3) x0 rfl h3) (ea_c x0 mono_aN (es_varI (i := 4) x0 rfl) (ea_n x0)))))) hp (fun B2 H2 s => ⟨true, exm_own XC_RoadError S_BadTree_RoadError, fun _ a ha => ⟨_, rfl, ⟨C_BadTree, rfl, rfl, XV_BadTree, rfl, fin B2 H2 s⟩⟩, fun z => by cases z⟩) _
end
end RR
namespace RR
open PySem L2 Evl PyProof.Rows L2H RRH
section
variable {P : Program} {w : World} {K : PySem.W.Frag} {mg : Str → Option Value} {base : Heap} {C_BadTree C_RoadError : Addr}

/-- the road by which one comes into a place, in a list -/
def edgeT (t : List Th) (v : Int) : Int := match t[v.toNat]? with
  | some (.int n) => n
  | _ => 0
theorem edgeT_eq {t : List Th} {v n : Int} (h : t[v.toNat]? = some (.int n)) : edgeT t v = n := by
  unfold edgeT
  rw [h]
/-- j steps back, and what is told of them -/
def stpW (g e : Int → Int) (ro : Int) : Nat → Int → List Int × Int
  | 0, v => ([], v)
  | j + 1, v => if (stpW g e ro j v).2 = ro then stpW g e ro j v else (e (stpW g e ro j v).2 :: (stpW g e ro j v).1, g (stpW g e ro j v).2)
theorem stpW_pos {g e : Int → Int} {ro : Int} (hg : g ro = ro) (v : Int) : ∀ j, (stpW g e ro j v).2 = itn g j v
  | 0 => rfl
  | j + 1 => by
    have ih := stpW_pos (e := e) hg v j
    unfold stpW
    by_cases h : (stpW g e ro j v).2 = ro
    · rw [if_pos h, h]
      show ro = g (itn g j v)
      rw [← ih, h, hg]
    · rw [if_neg h]
      show g _ = g _
      rw [ih]
theorem stpW_on {g e : Int → Int} {ro v : Int} (hg : g ro = ro) {j : Nat} (h : itn g j v ≠ ro) : (stpW g e ro (j + 1) v).1 = e (itn g j v) :: (stpW g e ro j v).1 := by
  have ih := stpW_pos (e := e) hg v j
  show (if (stpW g e ro j v).2 = ro then stpW g e ro j v else (e (stpW g e ro j v).2 :: (stpW g e ro j v).1, g (stpW g e ro j v).2)).1 = _
  rw [ih, if_neg h]
theorem stpW_off {g e : Int → Int} {ro v : Int} (hg : g ro = ro) {j : Nat} (h : itn g j v = ro) : stpW g e ro (j + 1) v = stpW g e ro j v := by
  have ih := stpW_pos (e := e) hg v j
  show (if (stpW g e ro j v).2 = ro then stpW g e ro j v else (e (stpW g e ro j v).2 :: (stpW g e ro j v).1, g (stpW g e ro j v).2)) = _
  rw [ih, if_pos h]
theorem stpW_end {g e : Int → Int} {ro v : Int} (hg : g ro = ro) {j : Nat} (h : itn g j v = ro) : ∀ k, stpW g e ro (j + k) v = stpW g e ro j v
  | 0 => rfl
  | k + 1 => by
    have ih := stpW_end (e := e) hg h k
    have h2 : itn g (j + k) v = ro := by
      rw [← stpW_pos (e := e) hg v (j + k), ih, stpW_pos hg v j, h]
    rw [show j + (k + 1) = (j + k) + 1 by omega, stpW_off hg h2, ih]
theorem stpW_len {g e : Int → Int} {ro v : Int} : ∀ j, (stpW g e ro j v).1.length ≤ j
  | 0 => Nat.le_refl _
  | j + 1 => by
    have ih := stpW_len (g := g) (e := e) (ro := ro) (v := v) j
    unfold stpW
    by_cases h : (stpW g e ro j v).2 = ro
    · rw [if_pos h]
      omega
    · rw [if_neg h]
      show (_ :: _).length ≤ _
      rw [List.length_cons]
      omega
def WayOk (m : Int) (rs : List Road) (ro : Int) (t : List Th) (v : Int) : Prop := (∀ j, j < m.toNat → itn (goB rs t ro) j v ≠ ro → InT rs t (itn (goB rs t ro) j v)) ∧ itn (goB rs t ro) m.toNat v = ro
def wayL (m : Int) (rs : List Road) (ro : Int) (t : List Th) (v : Int) : List Int := (stpW (goB rs t ro) (edgeT t) ro m.toNat v).1
theorem tree_ways {m ro : Int} {rs : List Road} {t : List Th} (hN : Net m rs) (h0 : 0 ≤ ro) (h1 : ro < m) (hl : t.length = m.toNat) (hr : t[ro.toNat]? = some .non) : IsTree m rs ro t ↔ ∀ v, 0 ≤ v → v < m → WayOk m rs ro t v := by
  constructor
  · intro h v a b
    refine ⟨fun j _ hne => ?_, h.back v a b⟩
    have := itn_in (fun v a b => goB_in hN.ok h0 h1 h.inn a b) a b j
    exact h.inn _ this.1 this.2 hne
  · intro h
    have := hN.lo
    exact ⟨hl, hr, fun v a b hne => (h v a b).1 0 (by omega) hne, fun v a b => (h v a b).2⟩
section
variable {B0 H0 B H : Hp} {σ : L2.St} {i : Nat} {te : TE} {D : Ends} {K : PySem.W.Frag}
theorem q_rev {tz : TS} {l : Addr} {xs : List V} (c : Cell H0 B H l (.lst xs)) (s0 : Stp B0 H0 B H) (ho : σ[i]? = some (some (.ref l)))
    (k : ∀ H1, Stp B0 H0 B H1 → Cell H0 B H1 l (.lst xs.reverse) → tz D σ H1) : tSeq (tDrop (tBM0 K "list" rReverse (tVar i))) tz D σ H := c_rev (D := { D with nx := tz D }) c s0 ho fun H1 s c _ => k H1 s c
/-- xs.insert(0, e) of one's own list -/
theorem c_ins0 {l : Addr} {xs : List V} {n : Int} (c : Cell H0 B H l (.lst xs)) (s0 : Stp B0 H0 B H) (ho : σ[i]? = some (some (.ref l))) (hz : xs.length < 100000) (h : EvE eI te σ B H n)
    (k : ∀ H1, Stp B0 H0 B H1 → Cell H0 B H1 l (.lst (.int n :: xs)) → D.nx σ H1) :
    tDrop (tBM K "list" (fun x vs H Q => ∃ (l : Addr) (xs : List V) (i : Int) (y : V), x = .ref l ∧ vs = [.int i, y] ∧ H l = some (.lst xs) ∧ xs.length < sizeLine ∧ 0 ≤ i ∧ i < 2 ^ 63 ∧ Q .non (upd H l (.lst (xs.take i.toNat ++ [y] ++ xs.drop i.toNat)))) (tVar i) (tCons (tC (.int 0)) (tCons te tNil))) D σ H :=
  ⟨.ref l, ho, Or.inl ⟨rfl, xs, SqL.of c.h⟩, ev_sI h H (Ex.refl _) _ fun H1 e => ⟨l, xs, 0, .int n, rfl, rfl, e _ _ c.h, sz_lt hz, by decide, by decide,
    k _ ((c.go e).mut (s0.goH e)) (c.go e).same⟩⟩
end
/-! ### None in a list -/
def deOp {α : Type} {E : Enc α} {n : Nat} (D : De E n) : De (eOp E) n := ⟨fun o => match o with
  | none => .none
  | some x => D.d x, fun {K H v o} h => by
  cases o with
  | none =>
    have h : v = .non := h
    subst h
    exact .non
  | some x => exact D.ok h.2, fun o => by
  cases o with
  | none => rfl
  | some x => exact D.lay x, fun o => by
  cases o with
  | none => exact Nat.zero_le _
  | some x => exact D.dep x⟩
theorem es_inNone {tb : TE} {σ : L2.St} {B H : Hp} {K : PySem.W.Frag} {xs : List (Option (List Int))} (x0 : Ex B H) (hb : EvE (eL (eOp (eL eI))) tb σ B H xs) : EvE eB (tOp (rInD K) (tC .non) tb) σ B H (xs.any fun o => o.isNone) :=
  es_op (E := eOp (eL eI)) x0 (es_noneOp x0) hb fun v w B2 H2 x2 hv hw => ⟨_, rfl, fun Q q => ⟨(deOp (deL deI)).d none, xs.map (deOp (deL deI)).d, (deOp (deL deI)).ok (Enc.up _ x2 hv), (deL (deOp (deL deI))).ok (Enc.up _ x2 hw), (deOp (deL deI)).sh (by decide) none, (deL (deOp (deL deI))).sh (by decide) xs, by
    have e : ((xs.map (deOp (deL deI)).d).any fun z => PyData.eqv z ((deOp (deL deI)).d none)) = xs.any fun o => o.isNone := by
      rw [List.any_map]
      congr 1
      funext o
      cases o with
      | none => rfl
      | some x => rfl
    rw [e]
    exact q⟩⟩

abbrev sp_way : Sp := SpecM (ar5 eI (eL eR) eI (eL eTh) eI) (fun i => Net i.1 i.2.1 ∧ 0 ≤ i.2.2.1 ∧ i.2.2.1 < i.1 ∧ 0 ≤ i.2.2.2.2 ∧ i.2.2.2.2 < i.1 ∧ i.2.2.2.1.length ≤ 100 ∧  IsTree i.1 i.2.1 i.2.2.1 i.2.2.2.1) eI (fun i y => y = wayL i.1 i.2.1 i.2.2.1 i.2.2.2.1 i.2.2.2.2)
theorem d_way (F0 : FunAt K mg "way" s_way) (T : Txt K mg) (G_checked : DefOk P w K mg base 4 "checked" ["many", "roads"] sp_checked) (G_need_place : DefOk P w K mg base 3 "need_place" ["many", "place"] sp_need) (G_stands : DefOk P w K mg base 3 "stands" ["many", "roads", "root", "tree"] sp_stands) : DefOk P w K mg base 5 "way" ["many", "roads", "root", "tree", "place"] sp_way := by
  refine mk_defM (k := 4) F0 sc_way (fun _ _ _ _ _ _ us hl => match us, hl with | [_, _, _, _, _], _ => rfl) (fun _ => (lenC (lenC (lenC (lenC (lenC lenN)))))) ?_
  intro f cdv A0 outer s E i B H vs Q hr x0 hA hp q
  obtain ⟨v0, _, _, rfl, rfl, h0, v1, _, _, rfl, rfl, h1, v2, _, _, rfl, rfl, h2, v3, _, _, rfl, rfl, h3, v4, _, _, rfl, rfl, h4, rfl⟩ := hA
  obtain ⟨y0, y1, y2, y3, y4⟩ := i
  (try dsimp only at h0); (try dsimp only at h1); (try dsimp only at h2); (try dsimp only at h3); (try dsimp only at h4); (try dsimp only at hp); (try dsimp only at q)
  refine ⟨_, (pss_cons (ps_expr (pe_callD G_checked (hr.mono (by decide)) (by rfl) (pa_cons (pv 0) (pa_cons (pv 1) pa_nil))))
      (pss_cons (ps_expr (pe_callD G_need_place (hr.mono (by decide)) (by rfl) (pa_cons (pv 0) (pa_cons (pv 2) pa_nil))))
      (pss_cons (ps_expr (pe_callD G_need_place (hr.mono (by decide)) (by rfl) (pa_cons (pv 0) (pa_cons (pv 4) pa_nil))))
      (pss_cons (ps_if (pt_not (pt_val (pe_callD G_stands (hr.mono (by decide)) (by rfl) (pa_cons (pv 0) (pa_cons (pv 1) (pa_cons (pv 2) (pa_cons (pv 3) pa_nil))))))) (pss_one ps_never) pss_nil)
      (pss_cons (ps_set (i := 5) sc_way.nd rfl (by first | exact Or.inl rfl | exact Or.inr rfl) (pe_lst pa_nil))
      (pss_cons (ps_while PassesOwn.never (pt_cmpR op_ne (pv 4) (pv 2) (nomark _)) (pss_cons (ps_expr (pe_bm PySem.F.plainAttrs_list PySem.F.slot_list_append PySem.F.type_list_append mt_append (pv 5) (pa_cons (pe_ix (k_ixl (K := K) rfl) (pv 3) (pv 4) (fun _ _ => rfl)) pa_nil)))
      (pss_one (ps_set (i := 4) sc_way.nd rfl (by first | exact Or.inl rfl | exact Or.inr rfl) (pe_ix (k_ixt (K := K) rfl) (pe_ix (k_ixl (K := K) rfl) (pv 1) (pe_ix (k_ixl (K := K) rfl) (pv 3) (pv 4) (fun _ _ => rfl)) (fun _ _ => rfl)) pe_int (fun _ _ => rfl))))))
      (pss_cons (ps_expr (pe_bm0 PySem.F.plainAttrs_list PySem.F.slot_list_reverse PySem.F.type_list_reverse mt_reverse (pv 5)))
      (pss_one (ps_ret (pv 5)))))))))), ?_⟩
  cases h0
  cases h2
  cases h4
  obtain ⟨hN, r0, r1, p0, p1, hl, hT⟩ := hp
  refine q_dropS (es_call (y0, y1) x0 (ea_c x0 (mono_aC mono_aN) (es_varI (i := 0) x0 rfl) (ea_c x0 mono_aN (es_var (E := eL eR) (i := 1) x0 rfl h1) (ea_n x0))) hN) fun v x B1 H1 s1 _ _ => ?_
  have x1 := s1.bh
  refine q_dropS (es_call (y0, y2) x1 (ea_c x1 (mono_aC mono_aN) (es_varI (i := 0) x1 rfl) (ea_c x1 mono_aN (es_varI (i := 2) x1 rfl) (ea_n x1))) ⟨r0, r1⟩) fun v x B2 H2 s2 _ _ => ?_
  replace s1 := s1.trans s2
  clear x1
  have x1 := s1.bh
  refine q_dropS (es_call (y0, y4) x1 (ea_c x1 (mono_aC mono_aN) (es_varI (i := 0) x1 rfl) (ea_c x1 mono_aN (es_varI (i := 4) x1 rfl) (ea_n x1))) ⟨p0, p1⟩) fun v x B3 H3 s3 _ _ => ?_
  replace s1 := s1.trans s3
  clear x1 s2 s3
  have x1 := s1.bh
  replace h1 := Enc.up _ s1.eb h1
  replace h3 := Enc.up _ s1.eb h3
  refine q_when (b := false) (et_is (et_not (et_sB (es_dec (es_call (y0, y1, y2, y3) x1 (ea_c x1 (mono_aC (mono_aC (mono_aC mono_aN))) (es_varI (i := 0) x1 rfl) (ea_c x1 (mono_aC (mono_aC mono_aN)) (es_var (E := eL eR) (i := 1) x1 rfl h1) (ea_c x1 (mono_aC mono_aN) (es_varI (i := 2) x1 rfl) (ea_c x1 mono_aN (es_var (E := eL eTh) (i := 3) x1 rfl h3) (ea_n x1))))) ⟨hN, r0, r1, hl⟩)))) (by show (!pd (IsTree y0 y1 y2 y3)) = false; rw [pd_true.mpr hT]; rfl)) (fun hb => by cases hb) (fun hb H4 e4 => ?_)
  replace s1 := s1.goH e4
  clear x1
  have x1 := s1.bh
  have hm1 := hN.lo
  have hm12 := hN.hi
  have hg : ∀ v, 0 ≤ v → v < y0 → 0 ≤ goB y1 y3 y2 v ∧ goB y1 y3 y2 v < y0 := fun v a b => goB_in hN.ok r0 r1 hT.inn a b
  have hgr := goB_root y1 y3 y2
  have hback : ∀ v, 0 ≤ v → v < y0 → v ≠ y2 → ∃ n r, y3[v.toNat]? = some (.int n) ∧ 0 ≤ n ∧ y1[n.toNat]? = some r ∧ goB y1 y3 y2 v = r.1 := fun v a b c => back_next c (hT.inn v a b c)
  have hend := hT.back y4 p0 p1
  unfold wayL at q
  generalize goB y1 y3 y2 = g at hg hgr hback hend q
  refine q_setM (i := 5) (em_nil (E := eI) x1) fun l vs xs B5 H5 s5 nl bl hl5 hx hR => ?_
  cases hx
  cases hR
  have cl : Cell H B5 H5 l (.lst ((stpW g (edgeT y3) y2 0 y4).1.reverse.map V.int)) := ⟨fresh_back s1.eh nl, bl, hl5⟩
  replace s1 := s1.trans s5
  replace h1 := Enc.up _ s5.eb h1
  replace h3 := Enc.up _ s5.eb h3
  clear x1 s5 nl bl hl5
  refine q_while (W := fun n σ' H' => ∃ L, σ' = [some (.int y0), some v1, some (.int y2), some v3, some (.int (itn g L y4)), some (.ref l)] ∧ Stp B H B5 H' ∧ Cell H B5 H' l (.lst ((stpW g (edgeT y3) y2 L y4).1.reverse.map V.int)) ∧ n + L = y0.toNat) y0.toNat
    ⟨0, rfl, s1, cl, rfl⟩ (fun n σ' H' w => ?_)
  clear cl s1
  obtain ⟨L, rfl, s, cl, hn⟩ := w
  have xH := s.bh
  have hm := itn_in hg p0 p1 L
  refine ⟨!decide (itn g L y4 = y2), et_sT (es_neI xH (es_varI (i := 4) xH rfl) (es_varI (i := 2) xH rfl)), fun hb H5 e5 => ?_, fun hb H5 e5 => ?_⟩
  · have hne : itn g L y4 ≠ y2 := by simpa using hb
    have hL : L < y0.toNat := by
      refine Classical.byContradiction fun z => hne ?_
      have : L = y0.toNat := by omega
      rw [this]
      exact hend
    replace cl := cl.go e5
    replace s := s.goH e5
    clear xH
    have x5 := s.bh
    refine ⟨fun σ' H' => ∃ L', σ' = [some (.int y0), some v1, some (.int y2), some v3, some (.int (itn g L' y4)), some (.ref l)] ∧ Stp B H B5 H' ∧ Cell H B5 H' l (.lst ((stpW g (edgeT y3) y2 L' y4).1.reverse.map V.int)) ∧ L' = L + 1,
      fun σ2 H6 ⟨L', k1, k2, k3, k4⟩ => ⟨n - 1, by omega, L', k1, k2, k3, by omega⟩, ?_⟩
    obtain ⟨nn, r, k1, k2, k3, k4⟩ := hback _ hm.1 hm.2 hne
    have hlen := stpW_len (g := g) (e := edgeT y3) (ro := y2) (v := y4) L
    refine c_appI (D := { nx := _, rt := _, bk := _, ct := _ }) (i := 5) cl s rfl (by rw [List.length_map, List.length_reverse]; omega) (es_thI (es_ixL (E := eTh) (x := Th.int nn) x5 (es_var (i := 3) x5 rfl h3) (es_varI (i := 4) x5 rfl) hm.1 k1)) fun H6 s6 c6 _ => ?_
    have x6 := s6.bh
    refine s_asg (i := 4) (v := .int (itn g (L + 1) y4)) (ev_sI (B := B5) ((es_30 (t := r) x6 (es_ixL (E := eR) (i := nn) x6 (es_var (i := 1) x6 rfl h1) (es_thI (es_ixL (E := eTh) (x := Th.int nn) x6 (es_var (i := 3) x6 rfl h3) (es_varI (i := 4) x6 rfl) hm.1 k1)) k2 k3)).to k4.symm)) fun H7 e7 => ⟨L + 1, rfl, s6.goH e7, ?_, rfl⟩
    rw [stpW_on hgr hne, List.reverse_cons, List.map_append, edgeT_eq k1]
    exact c6.go e7
  · have he : itn g L y4 = y2 := by simpa using hb
    refine q_rev (i := 5) (cl.go e5) (s.goH e5) rfl fun H6 s6 c6 => ?_
    refine s_ret (ev_var (v := .ref l) (i := 5) rfl) fun H7 e7 => ?_
    have c7 := c6.go e7
    rw [← List.map_reverse, List.reverse_reverse] at c7
    refine q l _ _ B5 H7 (s6.goH e7) c7.n c7.b c7.h ?_ (pI' _)
    rw [← hn, Nat.add_comm, stpW_end hgr he]
end
end RR
namespace RR
open PySem L2 Evl PyProof.Rows L2H RRH
section
variable {P : Program} {w : World} {K : PySem.W.Frag} {mg : Str → Option Value} {base : Heap} {C_BadTree C_RoadError : Addr}

abbrev sp_lway : Sp := Spec (ar5 eI (eL eR) eI (eL eTh) eI) (fun i => Net i.1 i.2.1 ∧ 0 ≤ i.2.2.1 ∧ i.2.2.1 < i.1 ∧ 0 ≤ i.2.2.2.2 ∧ i.2.2.2.2 < i.1 ∧ i.2.2.2.1.length = i.1.toNat) (eOp (eL eI)) (fun i o => (o = none → ¬ WayOk i.1 i.2.1 i.2.2.1 i.2.2.2.1 i.2.2.2.2) ∧ ∀ l, o = some l → WayOk i.1 i.2.1 i.2.2.1 i.2.2.2.1 i.2.2.2.2 ∧ l = wayL i.1 i.2.1 i.2.2.1 i.2.2.2.1 i.2.2.2.2)
theorem d__law_way (F0 : FunAt K mg "_law_way" s__law_way) (T : Txt K mg)  : DefOk P w K mg base 1 "_law_way" ["_law_many_here", "_law_roads", "_law_root", "_law_tree", "_law_place"] sp_lway := by
  refine mk_def (k := 0) F0 sc__law_way (fun _ _ _ _ _ _ us hl => match us, hl with | [_, _, _, _, _], _ => rfl) (fun _ => (lenC (lenC (lenC (lenC (lenC lenN)))))) ?_
  intro f cdv A0 outer s E i B H vs Q hr x0 hA hp q
  obtain ⟨v0, _, _, rfl, rfl, h0, v1, _, _, rfl, rfl, h1, v2, _, _, rfl, rfl, h2, v3, _, _, rfl, rfl, h3, v4, _, _, rfl, rfl, h4, rfl⟩ := hA
  obtain ⟨y0, y1, y2, y3, y4⟩ := i
  (try dsimp only at h0); (try dsimp only at h1); (try dsimp only at h2); (try dsimp only at h3); (try dsimp only at h4); (try dsimp only at hp); (try dsimp only at q)
  refine ⟨_, (pss_cons (ps_set (i := 5) sc__law_way.nd rfl (by first | exact Or.inl rfl | exact Or.inr rfl) (pe_lst pa_nil))
      (pss_cons (ps_for PassesOwn.never rfl (pi_range1 (by rfl) T.b_range (pa_cons (pv 0) pa_nil)) (pg_name (i := 6) sc__law_way.nd rfl (by first | exact Or.inl rfl | exact Or.inr rfl)) (pss_one (ps_if (pt_cmpR op_ne (pv 4) (pv 2) (nomark _)) (pss_cons (ps_set (i := 7) sc__law_way.nd rfl (by first | exact Or.inl rfl | exact Or.inr rfl) (pe_ix (k_ixl (K := K) rfl) (pv 3) (pv 4) (fun _ _ => rfl)))
      (pss_cons (ps_if (pw_or (pt_not (pt_val (pe_callB (k_isi (K := K) rfl) (by rfl) T.b_isinstance (by decide +kernel) (pa_cons (pv 7) (pa_cons (pe_bltn (v := .ty "int") (u := .type "int") (by rfl) T.b_int (by decide +kernel) rfl) pa_nil))))) (pw_or (pt_val (pe_callB (k_isi (K := K) rfl) (by rfl) T.b_isinstance (by decide +kernel) (pa_cons (pv 7) (pa_cons (pe_bltn (v := .ty "bool") (u := .type "bool") (by rfl) T.b_bool (by decide +kernel) rfl) pa_nil)))) (pw_or (pt_cmpR op_lt (pv 7) pe_int (nomark _)) (pw_or1 (pt_cmpR op_ge (pv 7) (pe_callB (k_len (K := K) rfl) (by rfl) T.b_len (by decide +kernel) (pa_cons (pv 1) pa_nil)) (nomark _)))))).pt (pss_one (ps_ret pe_non)) pss_nil)
      (pss_cons (ps_if (pt_cmpR op_ne (pe_ix (k_ixt (K := K) rfl) (pe_ix (k_ixl (K := K) rfl) (pv 1) (pv 7) (fun _ _ => rfl)) pe_int (fun _ _ => rfl)) (pv 4) (nomark _)) (pss_one (ps_ret pe_non)) pss_nil)
      (pss_cons (ps_expr (pe_bm PySem.F.plainAttrs_list PySem.F.slot_list_insert PySem.F.type_list_insert mt_insert (pv 5) (pa_cons pe_int (pa_cons (pv 7) pa_nil))))
      (pss_one (ps_set (i := 4) sc__law_way.nd rfl (by first | exact Or.inl rfl | exact Or.inr rfl) (pe_ix (k_ixt (K := K) rfl) (pe_ix (k_ixl (K := K) rfl) (pv 1) (pv 7) (fun _ _ => rfl)) pe_int (fun _ _ => rfl)))))))) pss_nil)))
      (pss_cons (ps_if (pt_cmpR op_ne (pv 4) (pv 2) (nomark _)) (pss_one (ps_ret pe_non)) pss_nil)
      (pss_one (ps_ret (pv 5)))))), ?_⟩
  cases h0
  cases h2
  cases h4
  obtain ⟨hN, r0, r1, p0, p1, hl⟩ := hp
  have hm1 := hN.lo
  have hm12 := hN.hi
  have no : ∀ {σ : L2.St} {B' H' : Hp} {D : Ends}, Stp B H B' H' → D.rt = Q → ¬ WayOk y0 y1 y2 y3 y4 → tRet (tC .non) D σ H' := fun s e h => s_ret ev_c fun H2 e2 => by
    rw [e]
    exact q .non none _ H2 (s.goH e2) ⟨fun _ => h, fun l z => by cases z⟩ rfl
  have hgr := goB_root y1 y3 y2
  have hgs : ∀ v, v ≠ y2 → InT y1 y3 v → 0 ≤ goB y1 y3 y2 v ∧ goB y1 y3 y2 v < y0 := fun v hne hv => by
    obtain ⟨n, r, _, _, k3, k4⟩ := back_next hne hv
    rw [k4]
    have := hN.ok r (List.mem_of_getElem? k3)
    exact ⟨this.1, this.2.1⟩
  refine q_setM (i := 5) (em_nil (E := eI) x0) fun l vs xs B1 H1 s1 nl bl hl1 hx hR => ?_
  cases hx
  cases hR
  have cl : Cell H B1 H1 l (.lst ((stpW (goB y1 y3 y2) (edgeT y3) y2 0 y4).1.map V.int)) := ⟨nl, bl, hl1⟩
  replace h1 := Enc.up _ s1.eb h1
  replace h3 := Enc.up _ s1.eb h3
  have x1 := s1.bh
  refine q_forR (es_varI (i := 0) x1 rfl) ⟨by omega, by omega⟩ (fun i σ' H' => ∃ a b, σ' = [some (.int y0), some v1, some (.int y2), some v3, some (.int (itn (goB y1 y3 y2) i y4)), some (.ref l), a, b] ∧ Stp B H B1 H' ∧ Cell H B1 H' l (.lst ((stpW (goB y1 y3 y2) (edgeT y3) y2 i y4).1.map V.int)) ∧ 0 ≤ itn (goB y1 y3 y2) i y4 ∧ itn (goB y1 y3 y2) i y4 < y0 ∧ ∀ j, j < i → itn (goB y1 y3 y2) j y4 ≠ y2 → InT y1 y3 (itn (goB y1 y3 y2) j y4))
    (fun H2 e2 => ⟨none, none, rfl, s1.goH e2, cl.go e2, p0, p1, fun j hj => absurd hj (Nat.not_lt_zero _)⟩) (fun i σ' H' hi w => ?_) (fun σ' H' w => ?_)
  · clear cl s1 x1
    obtain ⟨a, b, rfl, s, cl, q0, q1, hA⟩ := w
    have x2 := s.bh
    have hil : (itn (goB y1 y3 y2) i y4).toNat < y3.length := by omega
    have hxi := List.getElem?_eq_getElem hil
    generalize y3[(itn (goB y1 y3 y2) i y4).toNat] = th at hxi
    refine s_when (et_sT (es_neI x2 (es_varI (i := 4) x2 rfl) (es_varI (i := 2) x2 rfl))) (fun hb H5 e5 => ?_) (fun hb H5 e5 => ?_)
    · have hne : (itn (goB y1 y3 y2) i y4) ≠ y2 := by simpa using hb
      replace s := s.goH e5
      replace cl := cl.go e5
      clear x2
      have x2 := s.bh
      refine q_setS (E := eTh) (i := 7) (es_ixL (E := eTh) (i := (itn (goB y1 y3 y2) i y4)) x2 (es_var (i := 3) x2 rfl h3) (es_varI (i := 4) x2 rfl) q0 hxi) fun vo to B6 H6 s6 hto hvo => ?_
      subst hto
      replace s : Stp B H B1 H6 := s.goH s6.eh
      replace cl := cl.go s6.eh
      clear x2
      have x2 := s.bh
      have xH := s6.bh
      have hno : (∀ (n : Int) (r : Road), to = .int n → 0 ≤ n → y1[n.toNat]? = some r → r.2.1 = (itn (goB y1 y3 y2) i y4) → False) → ¬ WayOk y0 y1 y2 y3 y4 := fun hf hW => by
        obtain ⟨n, r, k1, k2, k3, k4⟩ := hW.1 i (by omega) hne
        rw [hxi] at k1
        exact hf n r (Option.some.inj k1) k2 k3 k4
      cases to with
      | non => exact q_when (b := true) (et_noWhole (b := true) xH rfl hvo fun z => by cases z) (fun _ H7 e7 => no (s.goH e7) rfl (hno fun n r z => by cases z)) (fun z => by cases z)
      | no => exact q_when (b := true) (et_noWhole (b := true) xH rfl hvo fun z => by cases z) (fun _ H7 e7 => no (s.goH e7) rfl (hno fun n r z => by cases z)) (fun z => by cases z)
      | int n =>
        have hvn : vo = .int n := hvo
        subst hvn
        refine q_when (b := decide (n < 0) || decide ((y1.length : Int) ≤ n)) (et_noWhole (t := .int n) xH rfl hvo fun _ => et_or (et_sT (es_opB (g := fun a b => decide (a < b)) x2 (es_varI (i := 7) x2 rfl) (es_int x2))) fun _ => et_sT (es_opB (g := fun a b => decide (b ≤ a)) x2 (es_varI (i := 7) x2 rfl) (es_lenL x2 (es_var (E := eL eR) (i := 1) x2 rfl h1)))) (fun hb7 H7 e7 => ?_) (fun hb7 H7 e7 => ?_)
        · refine no (s.goH e7) rfl (hno fun n' r z k2 k3 _ => ?_)
          cases z
          have := (List.getElem?_eq_some_iff.mp k3).1
          simp only [Bool.or_eq_true, decide_eq_true_eq] at hb7
          omega
        · simp only [Bool.or_eq_false_iff, decide_eq_false_iff_not] at hb7
          have hn : n.toNat < y1.length := by omega
          have hr := List.getElem?_eq_getElem hn
          generalize y1[n.toNat] = r at hr
          replace s := s.goH e7
          replace cl := cl.go e7
          clear x2 xH
          have x2 := s.bh
          refine q_when (et_sT (es_neI x2 (es_31 (t := r) x2 (es_ixL (E := eR) (i := n) x2 (es_var (i := 1) x2 rfl h1) (es_varI (i := 7) x2 rfl) (by omega) hr)) (es_varI (i := 4) x2 rfl))) (fun hb8 H8 e8 => ?_) (fun hb8 H8 e8 => ?_)
          · refine no (s.goH e8) rfl (hno fun n' r' z k2 k3 k4 => ?_)
            cases z
            rw [hr] at k3
            cases k3
            rw [k4] at hb8
            simp at hb8
          · have hr21 : r.2.1 = (itn (goB y1 y3 y2) i y4) := by simpa using hb8
            have hI : InT y1 y3 (itn (goB y1 y3 y2) i y4) := ⟨n, r, hxi, by omega, hr, hr21⟩
            have hgo := hgs _ hne hI
            have hst : goB y1 y3 y2 (itn (goB y1 y3 y2) i y4) = r.1 := (if_neg hne).trans (stOf_eq hxi hr)
            have hlen := stpW_len (g := goB y1 y3 y2) (e := edgeT y3) (ro := y2) (v := y4) i
            refine c_ins0 (D := { nx := _, rt := _, bk := _, ct := _ }) (i := 5) (cl.go e8) (s.goH e8) rfl (by rw [List.length_map]; omega) (es_varI (i := 7) (s.goH e8).bh rfl) fun H9 s9 c9 => ?_
            have x9 := s9.bh
            refine s_asg (i := 4) (v := .int (itn (goB y1 y3 y2) (i + 1) y4)) (ev_sI (B := B1) ((es_30 (t := r) x9 (es_ixL (E := eR) (i := n) x9 (es_var (i := 1) x9 rfl h1) (es_varI (i := 7) x9 rfl) (by omega) hr)).to hst.symm)) fun H10 e10 => ⟨_, _, rfl, s9.goH e10, ?_, hgo.1, hgo.2, fun j hj hnj => ?_⟩
            · rw [stpW_on hgr hne, List.map_cons, edgeT_eq hxi]
              exact c9.go e10
            · by_cases e : j = i
              · subst e
                exact hI
              · exact hA j (by omega) hnj
    · have he : (itn (goB y1 y3 y2) i y4) = y2 := by simpa using hb
      have e1 : itn (goB y1 y3 y2) (i + 1) y4 = (itn (goB y1 y3 y2) i y4) := by
        show goB y1 y3 y2 (itn (goB y1 y3 y2) i y4) = (itn (goB y1 y3 y2) i y4)
        rw [he, hgr]
      refine ⟨some (.int i), b, by rw [e1]; rfl, s.goH e5, ?_, by rw [e1]; exact q0, by rw [e1]; exact q1, fun j hj hnj => ?_⟩
      · rw [stpW_off hgr he]
        exact cl.go e5
      · by_cases e : j = i
        · subst e
          exact absurd he hnj
        · exact hA j (by omega) hnj
  · clear cl s1 x1
    obtain ⟨a, b, rfl, s, cl, q0, q1, hA⟩ := w
    have x2 := s.bh
    refine q_when (et_sT (es_neI x2 (es_varI (i := 4) x2 rfl) (es_varI (i := 2) x2 rfl))) (fun hb H5 e5 => ?_) (fun hb H5 e5 => ?_)
    · have hne : itn (goB y1 y3 y2) y0.toNat y4 ≠ y2 := by simpa using hb
      exact no (s.goH e5) rfl fun hW => hne hW.2
    · have he : itn (goB y1 y3 y2) y0.toNat y4 = y2 := by simpa using hb
      obtain ⟨B9, s9, eb9, hv9, _⟩ := cell_pub (E := eI) (cl.go e5) (s.goH e5) (pI' _)
      refine c_ret s9 (es_someL (es_var (E := eL eI) (i := 5) s9.bh rfl hv9)) fun w y B2 H2 s2 hy hR => q w y B2 H2 s2 ?_ hR
      obtain ⟨ys, rfl, hys⟩ := hy
      refine ⟨fun z => (by cases z), fun l z => ?_⟩
      cases z
      exact ⟨⟨hA, he⟩, hys⟩
end
end RR
namespace RR
open PySem L2 Evl PyProof.Rows L2H RRH
section
variable {P : Program} {w : World} {K : PySem.W.Frag} {mg : Str → Option Value} {base : Heap} {C_BadTree C_RoadError : Addr}

theorem pairIn {α β : Type} {T : α → β → Prop} : ∀ {xs : List α} {ys : List β}, Paired T xs ys → ∀ {x}, x ∈ xs → ∃ y, y ∈ ys ∧ T x y
  | _, _, .nil, x, h => by cases h
  | _, _, .cons r t, x, h => by
    rcases List.mem_cons.mp h with q | q
    · subst q
      exact ⟨_, List.mem_cons_self, r⟩
    · obtain ⟨y, h1, h2⟩ := pairIn t q
      exact ⟨y, List.mem_cons_of_mem _ h1, h2⟩
theorem pairIn2 {α β : Type} {T : α → β → Prop} : ∀ {xs : List α} {ys : List β}, Paired T xs ys → ∀ {y}, y ∈ ys → ∃ x, x ∈ xs ∧ T x y
  | _, _, .nil, x, h => by cases h
  | _, _, .cons r t, x, h => by
    rcases List.mem_cons.mp h with q | q
    · subst q
      exact ⟨_, List.mem_cons_self, r⟩
    · obtain ⟨y, h1, h2⟩ := pairIn2 t q
      exact ⟨y, List.mem_cons_of_mem _ h1, h2⟩
theorem pairSome {α β : Type} {T : α → Option β → Prop} {f : α → β} : ∀ {xs : List α} {ys : List (Option β)}, Paired T xs ys → (∀ o, o ∈ ys → o ≠ none) → (∀ x l, T x (some l) → l = f x) → ys = (xs.map f).map some
  | _, _, .nil, _, _ => rfl
  | x :: xs, y :: ys, .cons r t, h, k => by
    have ih := pairSome t (fun o ho => h o (List.mem_cons_of_mem _ ho)) k
    cases y with
    | none => exact absurd rfl (h none List.mem_cons_self)
    | some l => rw [ih, k x l r]; rfl
theorem unSomeP {α : Type} {E : Enc α} {B : Hp} : ∀ {vs : List V} {xs : List α}, Paired ((eOp E).R B) vs (xs.map some) → Paired (E.R B) vs xs
  | [], [], _ => .nil
  | v :: vs, x :: xs, h => by
    cases h with
    | cons r t => exact .cons r.2 (unSomeP t)
  | [], _ :: _, h => by cases h
  | _ :: _, [], h => by cases h
theorem unSome {α : Type} {E : Enc α} {B : Hp} {v : V} {xs : List α} (h : (eL (eOp E)).R B v (xs.map some)) : (eL E).R B v xs := by
  obtain ⟨a, vs, h1, h2, h3⟩ := h
  exact ⟨a, vs, h1, h2, unSomeP h3⟩

abbrev sp_lways : Sp := Spec (ar4 eI (eL eR) eI (eL eTh)) (fun i => Net i.1 i.2.1 ∧ 0 ≤ i.2.2.1 ∧ i.2.2.1 < i.1 ∧ i.2.2.2.length = i.1.toNat) (eOp (eL (eL eI))) (fun i o => (o = none → ¬ IsTree i.1 i.2.1 i.2.2.1 i.2.2.2) ∧ ∀ l, o = some l → IsTree i.1 i.2.1 i.2.2.1 i.2.2.2 ∧ l = (rg i.1).map fun v => wayL i.1 i.2.1 i.2.2.1 i.2.2.2 v)
theorem d__law_ways (F0 : FunAt K mg "_law_ways" s__law_ways) (T : Txt K mg) (G__law_way : DefOk P w K mg base 1 "_law_way" ["_law_many_here", "_law_roads", "_law_root", "_law_tree", "_law_place"] sp_lway) : DefOk P w K mg base 2 "_law_ways" ["_law_many_here", "_law_roads", "_law_root", "_law_tree"] sp_lways := by
  refine mk_def (k := 1) F0 sc__law_ways (fun _ _ _ _ _ _ us hl => match us, hl with | [_, _, _, _], _ => rfl) (fun _ => (lenC (lenC (lenC (lenC lenN))))) ?_
  intro f cdv A0 outer s E i B H vs Q hr x0 hA hp q
  obtain ⟨v0, _, _, rfl, rfl, h0, v1, _, _, rfl, rfl, h1, v2, _, _, rfl, rfl, h2, v3, _, _, rfl, rfl, h3, rfl⟩ := hA
  obtain ⟨y0, y1, y2, y3⟩ := i
  (try dsimp only at h0); (try dsimp only at h1); (try dsimp only at h2); (try dsimp only at h3); (try dsimp only at hp); (try dsimp only at q)
  refine ⟨_, (pss_cons (ps_if (pt_cmpR op_notN (pe_ix (k_ixl (K := K) rfl) (pv 3) (pv 2) (fun _ _ => rfl)) pe_non (nomark _)) (pss_one (ps_ret pe_non)) pss_nil)
      (pss_cons (ps_setLc (i := 4) (own := [("_law_place", 5)]) (g := gName 5) rfl sc__law_ways.nd rfl rfl (sw_true rfl rfl rfl (by decide +kernel)) (pi_range1 (by rfl) T.b_range (pa_cons (pv 0) pa_nil)) (blkOk_by (N := N__law_ways) (sc := defScope s__law_ways) (by decide +kernel)) (fun _ _ _ _ _ => pg_name (i := 5) sc__law_ways.nd rfl (Or.inl rfl)) (fun _ _ _ _ _ => pts_nil) (fun _ _ _ _ _ => (pe_callD G__law_way (hr.mono (by decide)) (by rfl) (pa_cons (pv 0) (pa_cons (pv 1) (pa_cons (pv 2) (pa_cons (pv 3) (pa_cons (pv 5) pa_nil))))))))
      (pss_cons (ps_if (pt_cmpR (op_inD (hu65 hr)) pe_non (pv 4) (by rfl)) (pss_one (ps_ret pe_non)) pss_nil)
      (pss_one (ps_ret (pv 4)))))), ?_⟩
  cases h0
  cases h2
  obtain ⟨hN, r0, r1, hl⟩ := hp
  have hm1 := hN.lo
  have hm12 := hN.hi
  have no : ∀ {σ : L2.St} {B' H' : Hp} {D : Ends}, Stp B H B' H' → D.rt = Q → ¬ IsTree y0 y1 y2 y3 → tRet (tC .non) D σ H' := fun s e h => s_ret ev_c fun H2 e2 => by
    rw [e]
    exact q .non none _ H2 (s.goH e2) ⟨fun _ => h, fun l z => by cases z⟩ rfl
  have hrl : y2.toNat < y3.length := by omega
  have hx := List.getElem?_eq_getElem hrl
  generalize y3[y2.toNat] = tr at hx
  refine q_when (et_sT (es_notNTh x0 (es_ixL (E := eTh) x0 (es_var (i := 3) x0 rfl h3) (es_varI (i := 2) x0 rfl) r0 hx))) (fun hb H1 e1 => ?_) (fun hb H1 e1 => ?_)
  · refine no (Stp.go x0 e1) rfl fun hI => ?_
    have := hI.rt
    rw [hx] at this
    cases this
    cases hb
  have htr : tr = .non := by
    cases tr with
    | non => rfl
    | int n => cases hb
    | no => cases hb
  subst htr
  have s1 : Stp B H B H1 := Stp.go x0 e1
  have x1 := s1.bh
  have htw := tree_ways hN r0 r1 hl hx
  refine q_setS (E := eL (eOp (eL eI))) (i := 4) (em_lcR (F := eOp (eL eI)) (p := fun _ => true) (Tr := fun v o => (o = none → ¬ WayOk y0 y1 y2 y3 v) ∧ ∀ l, o = some l → WayOk y0 y1 y2 y3 v ∧ l = wayL y0 y1 y2 y3 v) x1 (es_varI (i := 0) x1 rfl) (by omega) (by omega) (fun v => rfl) (fun _ _ _ _ _ _ => et_yes) (fun k B9 H9 s9 g0 g1 _ => ?_)).s fun vf os B2 H2 s2 hos hvf => ?_
  · have x9 := s9.bh
    exact es_call (y0, y1, y2, y3, k) x9 (ea_c x9 (mono_aC (mono_aC (mono_aC (mono_aC mono_aN)))) (es_varI (i := 0) x9 rfl) (ea_c x9 (mono_aC (mono_aC (mono_aC mono_aN))) (es_var (E := eL eR) (i := 1) x9 rfl (Enc.up _ s9.eb h1)) (ea_c x9 (mono_aC (mono_aC mono_aN)) (es_varI (i := 2) x9 rfl) (ea_c x9 (mono_aC mono_aN) (es_var (E := eL eTh) (i := 3) x9 rfl (Enc.up _ s9.eb h3)) (ea_c x9 mono_aN (es_varI (i := 5) x9 rfl) (ea_n x9)))))) ⟨hN, r0, r1, g0, g1, hl⟩
  rw [filter_yes] at hos
  replace s1 := s1.trans s2
  clear x1
  have x1 := s1.bh
  have hal : ∀ v, 0 ≤ v → v < y0 → ∃ o, o ∈ os ∧ (o = none → ¬ WayOk y0 y1 y2 y3 v) ∧ ∀ l, o = some l → WayOk y0 y1 y2 y3 v ∧ l = wayL y0 y1 y2 y3 v := fun v a b => pairIn hos (mem_rg.mpr ⟨a, b⟩)
  refine q_when (et_sT (es_inNone x1 (es_var (E := eL (eOp (eL eI))) (i := 4) x1 rfl hvf))) (fun hb H3 e3 => ?_) (fun hb H3 e3 => ?_)
  · refine no (s1.goH e3) rfl fun hI => ?_
    obtain ⟨o, ho, hoN⟩ := List.any_eq_true.mp hb
    obtain ⟨v, hv, k1, _⟩ := pairIn2 hos ho
    have hv := mem_rg.mp hv
    cases o with
    | none => exact k1 rfl (htw.mp hI v hv.1 hv.2)
    | some l => cases hoN
  · have hsome : ∀ o, o ∈ os → o ≠ none := fun o ho e => by
      subst e
      have : (os.any fun o => o.isNone) = true := List.any_eq_true.mpr ⟨none, ho, rfl⟩
      rw [this] at hb
      cases hb
    have hT : IsTree y0 y1 y2 y3 := htw.mpr fun v a b => by
      obtain ⟨o, ho, k1, k2⟩ := hal v a b
      cases o with
      | none => exact absurd rfl (hsome _ ho)
      | some l => exact (k2 l rfl).1
    have hos2 : os = ((rg y0).map fun v => wayL y0 y1 y2 y3 v).map some := pairSome hos hsome fun v l h => (h.2 l rfl).2
    subst hos2
    have hvf2 : (eL (eL eI)).R B2 vf ((rg y0).map fun v => wayL y0 y1 y2 y3 v) := unSome hvf
    have s3 := s1.goH e3
    refine c_ret s3 (es_someL (es_var (E := eL (eL eI)) (i := 4) s3.bh rfl hvf2)) fun w y B4 H4 s4 hy hR => q w y B4 H4 s4 ?_ hR
    obtain ⟨ys, rfl, hys⟩ := hy
    refine ⟨fun z => (by cases z), fun l z => ?_⟩
    cases z
    exact ⟨hT, hys⟩
end
end RR
namespace RR
open PySem L2 Evl PyProof.Rows L2H RRH
section
variable {P : Program} {w : World} {K : PySem.W.Frag} {mg : Str → Option Value} {base : Heap} {C_BadTree C_RoadError : Addr}

abbrev sp_road : Sp := Spec (ar2 eI eI) (fun i => Bd i.1 ∧ 2 ≤ i.2 ∧ i.2 ≤ 12) eR (fun i r => OkR i.2 r)
theorem d__law_road (F0 : FunAt K mg "_law_road" s__law_road) (T : Txt K mg)  : DefOk P w K mg base 2 "_law_road" ["_law_cell", "_law_many_here"] sp_road := by
  refine mk_def (k := 1) F0 sc__law_road (fun _ _ _ _ _ _ us hl => match us, hl with | [_, _], _ => rfl) (fun _ => (lenC (lenC lenN))) ?_
  intro f cdv A0 outer s E i B H vs Q hr x0 hA hp q
  obtain ⟨v0, _, _, rfl, rfl, h0, v1, _, _, rfl, rfl, h1, rfl⟩ := hA
  obtain ⟨y0, y1⟩ := i
  (try dsimp only at h0); (try dsimp only at h1); (try dsimp only at hp); (try dsimp only at q)
  refine ⟨_, (pss_cons (ps_set (i := 2) sc__law_road.nd rfl (by first | exact Or.inl rfl | exact Or.inr rfl) (pe_op op_mod (pv 0) (pv 1)))
      (pss_cons (ps_set (i := 3) sc__law_road.nd rfl (by first | exact Or.inl rfl | exact Or.inr rfl) (pe_op op_mod (pe_op op_add (pe_op op_add (pv 2) pe_int) (pe_op op_mod (pe_op op_fdiv (pv 0) (pv 1)) (pe_op op_sub (pv 1) pe_int))) (pv 1)))
      (pss_one (ps_ret (pe_tup (pa_cons (pv 2) (pa_cons (pv 3) (pa_cons (pe_op op_mod (pe_op op_fdiv (pe_op op_fdiv (pv 0) (pv 1)) (pv 1)) (pe_op op_pow pe_int pe_int)) pa_nil)))))))), ?_⟩
  cases h0
  cases h1
  obtain ⟨hb, hm, hm2⟩ := hp
  have g1 := Int.emod_nonneg y0 (show y1 ≠ 0 by omega)
  have g2 := Int.emod_lt_of_pos y0 (show 0 < y1 by omega)
  have g3 := Int.emod_nonneg (y0 / y1) (show y1 - 1 ≠ 0 by omega)
  have g4 := Int.emod_lt_of_pos (y0 / y1) (show 0 < y1 - 1 by omega)
  have g5 := okr_ends hm g1 g2 g3 g4
  refine q_setI (i := 2) (es_opC x0 (es_varI x0 rfl) (es_varI x0 rfl) (by first | (show (0 : Int) < _; omega) | (show (0 : Int) < _; decide +kernel))) fun H1 e1 => ?_
  refine q_setI (i := 3) (es_opC (x0.trans e1) (es_opI (x0.trans e1) (es_opI (x0.trans e1) (es_varI (x0.trans e1) rfl) (es_int (x0.trans e1))) (es_opC (x0.trans e1) (es_opC (x0.trans e1) (es_varI (x0.trans e1) rfl) (es_varI (x0.trans e1) rfl) (⟨by omega, by omega⟩)) (es_opI (x0.trans e1) (es_varI (x0.trans e1) rfl) (es_int (x0.trans e1))) (by first | (show (0 : Int) < _; omega) | (show (0 : Int) < _; decide +kernel)))) (es_varI (x0.trans e1) rfl) (by first | (show (0 : Int) < _; omega) | (show (0 : Int) < _; decide +kernel))) fun H2 e2 => ?_
  refine c_ret ((Stp.go x0 e1).goH e2) (es_tup3 ((x0.trans e1).trans e2) (es_varI (i := 2) ((x0.trans e1).trans e2) rfl) (es_varI (i := 3) ((x0.trans e1).trans e2) rfl) (es_opC ((x0.trans e1).trans e2) (es_opC ((x0.trans e1).trans e2) (es_opC ((x0.trans e1).trans e2) (es_varI ((x0.trans e1).trans e2) rfl) (es_varI ((x0.trans e1).trans e2) rfl) (⟨by omega, by omega⟩)) (es_varI ((x0.trans e1).trans e2) rfl) (⟨by omega, by omega⟩)) (es_opC ((x0.trans e1).trans e2) (es_int ((x0.trans e1).trans e2)) (es_int ((x0.trans e1).trans e2)) (⟨by decide, by decide, by decide⟩)) (by first | (show (0 : Int) < _; omega) | (show (0 : Int) < _; decide +kernel)))) fun w y B2 H3 s hy hR => q w y B2 H3 s ?_ hR
  obtain ⟨ha, hb2, hc⟩ := hy
  have hc : y.2.2 = y0 / y1 / y1 % 10 ^ (40 : Int).toNat := hc
  have e40 : (10 : Int) ^ (40 : Int).toNat = 10000000000000000000000000000000000000000 := by decide +kernel
  rw [e40] at hc
  have k1 := Int.emod_nonneg (y0 / y1 / y1) (show (10000000000000000000000000000000000000000 : Int) ≠ 0 by decide)
  have k2 := Int.emod_lt_of_pos (y0 / y1 / y1) (show (0 : Int) < 10000000000000000000000000000000000000000 by decide)
  exact ⟨by rw [ha]; exact g1, by rw [ha]; exact g2, by rw [hb2]; exact g5.1, by rw [hb2]; exact g5.2.1, by rw [ha, hb2]; exact g5.2.2, by rw [hc]; exact k1, by rw [hc]; exact k2⟩

abbrev sp_many : Sp := Spec (ar1 eI) (fun _ => True) eI (fun _ y => 1 ≤ y ∧ y ≤ 12)
theorem d__law_many (F0 : FunAt K mg "_law_many" s__law_many) (T : Txt K mg)  : DefOk P w K mg base 1 "_law_many" ["_law_cell"] sp_many := by
  refine mk_def (k := 0) F0 sc__law_many (fun _ _ _ _ _ _ us hl => match us, hl with | [_], _ => rfl) (fun _ => (lenC lenN)) ?_
  intro f cdv A0 outer s E i B H vs Q hr x0 hA hp q
  obtain ⟨v0, y0, _, rfl, rfl, h0, rfl⟩ := hA
  refine ⟨_, (pss_cons (ps_if (pt_cmpR op_eq (pe_op op_mod (pe_op op_fdiv (pv 0) pe_int) pe_int) pe_int (nomark _)) (pss_one (ps_ret (pe_op op_add pe_int (pe_op op_mod (pe_op op_fdiv (pv 0) pe_int) pe_int)))) pss_nil)
      (pss_one (ps_ret (pe_op op_add pe_int (pe_op op_mod (pv 0) pe_int))))), ?_⟩
  cases h0
  refine q_when (et_sT (es_eqI x0 (es_opC x0 (es_opC x0 (es_varI x0 rfl) (es_int x0) (⟨by omega, by omega⟩)) (es_int x0) (by first | (show (0 : Int) < _; omega) | (show (0 : Int) < _; decide +kernel))) (es_int x0))) (fun hb H1 e => ?_) (fun hb H1 e => ?_)
  · refine c_ret (Stp.go x0 e) (es_opI (x0.trans e) (es_int (x0.trans e)) (es_opC (x0.trans e) (es_opC (x0.trans e) (es_varI (x0.trans e) rfl) (es_int (x0.trans e)) (⟨by omega, by omega⟩)) (es_int (x0.trans e)) (by first | (show (0 : Int) < _; omega) | (show (0 : Int) < _; decide +kernel)))) fun w y B2 H2 s hy hR => q w y B2 H2 s ?_ hR
    rw [hy]
    omega
  · refine c_ret (Stp.go x0 e) (es_opI (x0.trans e) (es_int (x0.trans e)) (es_opC (x0.trans e) (es_varI (x0.trans e) rfl) (es_int (x0.trans e)) (by first | (show (0 : Int) < _; omega) | (show (0 : Int) < _; decide +kernel)))) fun w y B2 H2 s hy hR => q w y B2 H2 s ?_ hR
    rw [hy]
    omega

structure Nets4 (m : Int) (rs : List Road) (t : List Th) : Prop where
  ok : ∀ r ∈ rs, OkR m r
  len : rs.length ≤ 60
  pos : 2 < m → 0 < rs.length
  tl : t.length = m.toNat
abbrev sp_built (K : PySem.W.Frag) : Sp := SpecPL (ar3 (eScr K) eI eI) (fun i => (∀ n ∈ i.1, Bd n) ∧ 1 ≤ i.2.1 ∧ i.2.1 ≤ 12 ∧ 0 ≤ i.2.2 ∧ i.2.2 < i.2.1) (eL eR) eTh (fun i rs t _ => Nets4 i.2.1 rs t)
theorem d__law_built (F0 : FunAt K mg "_law_built" s__law_built) (T : Txt K mg) (G__law_cell_at : DefOk P w K mg base 1 "_law_cell_at" ["_law_script", "_law_k"] (sp_cell K)) (G__law_mixed : DefOk P w K mg base 1 "_law_mixed" ["_law_cell", "_law_k"] sp_mixed) (G__law_road : DefOk P w K mg base 2 "_law_road" ["_law_cell", "_law_many_here"] sp_road) : DefOk P w K mg base 3 "_law_built" ["_law_script", "_law_many_here", "_law_root"] (sp_built K) := by
  refine mk_defPL (k := 2) F0 sc__law_built (fun _ _ _ _ _ _ us hl => match us, hl with | [_, _, _], _ => rfl) (fun _ => (lenC (lenC (lenC lenN)))) ?_
  intro f cdv A0 outer s E i B H vs Q hr x0 hA hp q
  obtain ⟨v0, _, _, rfl, rfl, h0, v1, _, _, rfl, rfl, h1, v2, _, _, rfl, rfl, h2, rfl⟩ := hA
  obtain ⟨y0, y1, y2⟩ := i
  (try dsimp only at h0); (try dsimp only at h1); (try dsimp only at h2); (try dsimp only at hp); (try dsimp only at q)
  refine ⟨_, (pss_cons (ps_set (i := 3) sc__law_built.nd rfl (by first | exact Or.inl rfl | exact Or.inr rfl) (pe_lst pa_nil))
      (pss_cons (ps_for PassesOwn.never rfl (pi_range2 (by rfl) T.b_range (pa_cons pe_int (pa_cons (pv 1) pa_nil))) (pg_name (i := 4) sc__law_built.nd rfl (by first | exact Or.inl rfl | exact Or.inr rfl)) (pss_cons (ps_set (i := 5) sc__law_built.nd rfl (by first | exact Or.inl rfl | exact Or.inr rfl) (pe_callD G__law_mixed (hr.mono (by decide)) (by rfl) (pa_cons (pe_callD G__law_cell_at (hr.mono (by decide)) (by rfl) (pa_cons (pv 0) (pa_cons pe_int pa_nil))) (pa_cons (pv 4) pa_nil))))
      (pss_cons (ps_if (pt_cmpR op_eq (pe_op op_mod (pe_callD G__law_cell_at (hr.mono (by decide)) (by rfl) (pa_cons (pv 0) (pa_cons pe_int pa_nil))) pe_int) pe_int (nomark _)) (pss_one (ps_set (i := 5) sc__law_built.nd rfl (by first | exact Or.inl rfl | exact Or.inr rfl) (pe_op op_sub (pv 4) pe_int))) pss_nil)
      (pss_one (ps_expr (pe_bm PySem.F.plainAttrs_list PySem.F.slot_list_append PySem.F.type_list_append mt_append (pv 3) (pa_cons (pe_tup (pa_cons (pe_op op_mod (pe_op op_add (pv 2) (pe_op op_mod (pv 5) (pv 4))) (pv 1)) (pa_cons (pe_op op_mod (pe_op op_add (pv 2) (pv 4)) (pv 1)) (pa_cons (pe_op op_fdiv (pv 5) (pv 4)) pa_nil)))) pa_nil)))))))
      (pss_cons (ps_setLc (i := 6) (own := [("_law_place", 10)]) (g := gName 10) rfl sc__law_built.nd rfl rfl (sw_true rfl rfl rfl (by decide +kernel)) (pi_range1 (by rfl) T.b_range (pa_cons (pv 1) pa_nil)) (blkOk_by (N := N__law_built) (sc := defScope s__law_built) (by decide +kernel)) (fun _ _ _ _ _ => pg_name (i := 10) sc__law_built.nd rfl (Or.inl rfl)) (fun _ _ _ _ _ => pts_nil) (fun _ _ _ _ _ => pe_non))
      (pss_cons (ps_set (i := 7) sc__law_built.nd rfl (by first | exact Or.inl rfl | exact Or.inr rfl) (pe_lst pa_nil))
      (pss_cut (ps_if (pt_cmpR op_gt (pv 1) pe_int (nomark _)) (pss_one (ps_setLc (i := 7) (own := [("_law_cell", 11)]) (g := gName 11) rfl sc__law_built.nd rfl rfl (sw_true rfl rfl rfl (by decide +kernel)) (pi_list (pe_slice (k_sll (K := K) rfl) (pv 0) (po_some pe_int) (po_some pe_int))) (blkOk_by (N := N__law_built) (sc := defScope s__law_built) (by decide +kernel)) (fun _ _ _ _ _ => pg_name (i := 11) sc__law_built.nd rfl (Or.inl rfl)) (fun _ _ _ _ _ => pts_nil) (fun _ _ _ _ _ => (pe_callD G__law_road (hr.mono (by decide)) (by rfl) (pa_cons (pv 11) (pa_cons (pv 1) pa_nil)))))) pss_nil)
      (pss_cut (ps_if (pt_cmpR op_gt (pv 1) pe_int (nomark _)) (pss_one (ps_expr (pe_bm PySem.F.plainAttrs_list PySem.F.slot_list_append PySem.F.type_list_append mt_append (pv 7) (pa_cons (pe_tup (pa_cons (pe_op op_mod (pe_op op_sub (pe_op op_add (pv 2) (pv 1)) pe_int) (pv 1)) (pa_cons (pe_op op_mod (pe_op op_add (pv 2) pe_int) (pv 1)) (pa_cons pe_int pa_nil)))) pa_nil)))) pss_nil)
      (pss_cons (ps_set (i := 8) sc__law_built.nd rfl (by first | exact Or.inl rfl | exact Or.inr rfl) (pe_op op_mod (pe_callD G__law_cell_at (hr.mono (by decide)) (by rfl) (pa_cons (pv 0) (pa_cons pe_int pa_nil))) (pe_op op_add (pe_op op_add (pe_callB (k_len (K := K) rfl) (by rfl) T.b_len (by decide +kernel) (pa_cons (pv 3) pa_nil)) (pe_callB (k_len (K := K) rfl) (by rfl) T.b_len (by decide +kernel) (pa_cons (pv 7) pa_nil))) pe_int)))
      (pss_cons (ps_for PassesOwn.never rfl (pi_range1 (by rfl) T.b_range (pa_cons (pe_callB (k_len (K := K) rfl) (by rfl) T.b_len (by decide +kernel) (pa_cons (pv 3) pa_nil)) pa_nil)) (pg_name (i := 4) sc__law_built.nd rfl (by first | exact Or.inl rfl | exact Or.inr rfl)) (pss_one (ps_asg (pe_op op_mod (pe_op op_sub (pv 4) (pv 8)) (pe_op op_add (pe_callB (k_len (K := K) rfl) (by rfl) T.b_len (by decide +kernel) (pa_cons (pv 3) pa_nil)) (pe_callB (k_len (K := K) rfl) (by rfl) T.b_len (by decide +kernel) (pa_cons (pv 7) pa_nil)))) (pg_sub (pv 6) (pe_ix (k_ixt (K := K) rfl) (pe_ix (k_ixl (K := K) rfl) (pv 3) (pv 4) (fun _ _ => rfl)) pe_int (fun _ _ => rfl)) set_list))))
      (pss_cons (ps_set (i := 9) sc__law_built.nd rfl (by first | exact Or.inl rfl | exact Or.inr rfl) (pe_op op_cat (pv 3) (pv 7)))
      (pss_one (ps_ret (pe_tup (pa_cons (pe_op op_cat (pe_slice (k_sll (K := K) rfl) (pv 9) (po_some (pv 8)) po_none) (pe_slice (k_sll (K := K) rfl) (pv 9) po_none (po_some (pv 8)))) (pa_cons (pv 6) (pa_cons (pe_op op_sub (pe_op op_sub (pe_callB (k_len (K := K) rfl) (by rfl) T.b_len (by decide +kernel) (pa_cons (pv 9) pa_nil)) pe_int) (pv 8)) pa_nil))))))))))))))), ?_⟩
  cases h1
  cases h2
  obtain ⟨hbd, hm1, hm12, hr0, hr1⟩ := hp
  refine q_setM (i := 3) (em_nil (E := eR) x0) fun l vs xs B1 H1 s1 nl bl hl hx hR => ?_
  cases hx
  cases hR
  have c1 : Cell H B1 H1 l (.lst []) := ⟨nl, bl, hl⟩
  replace h0 := Enc.up _ s1.eb h0
  have x1 := s1.bh
  refine q_forR2' (lo := 1) (n := y1) (es_int x1) (es_varI (i := 1) x1 rfl) ⟨by omega, by omega, by omega, by omega⟩ (fun i σ' H' => ∃ a b B' vs rs, σ' = [some v0, some (.int y1), some (.int y2), some (.ref l), a, b, none, none, none, none, none, none] ∧ Stp B H B' H' ∧ Ex B1 B' ∧ Cell H B' H' l (.lst vs) ∧ Paired (eR.R B') vs rs ∧ (∀ r ∈ rs, OkR y1 r) ∧ rs.length = i)
    (fun H4 e4 => ⟨none, none, B1, [], [], rfl, s1.goH e4, Ex.refl _, c1.go e4, .nil, (fun r hr => by cases hr), rfl⟩) (fun i σ' H' hi w => ?_) (fun σ' H' w => ?_)
  · obtain ⟨a, b, B', vs, rs, rfl, s, eb, cl, hRr, hok, hlen⟩ := w
    have x2 := s.bh
    have h0' := Enc.up _ eb h0
    have hk1 : 0 < 1 + (i : Int) := by omega
    refine q_setI (i := 5) (n := mixedM (cellM y0 2) (1 + (i : Int))) (es_call (cellM y0 2, 1 + (i : Int)) x2 (ea_c x2 (mono_aC mono_aN) (es_call (y0, 2) x2 (ea_c x2 (mono_aC mono_aN) (es_var (i := 0) x2 rfl h0') (ea_c x2 mono_aN (es_int x2) (ea_n x2))) (by show (0 : Int) ≤ 2; omega)) (ea_c x2 mono_aN (es_varI (i := 4) x2 rfl) (ea_n x2))) ⟨by show (-1000 : Int) ≤ _; omega, by show _ ≤ (1000 : Int); omega⟩) fun H5 e5 => ?_
    have hnb0 := mixedM_bd (cellM y0 2) (1 + (i : Int))
    have hnb1 := mixedM_b (cellM y0 2) (1 + (i : Int))
    generalize mixedM (cellM y0 2) (1 + (i : Int)) = nu0 at hnb0 hnb1
    replace s := s.goH e5
    replace cl := cl.go e5
    clear x2
    have x2 := s.bh
    refine q_ifSetI (i := 5) (T := fun nu => Bd nu ∧ 0 ≤ nu ∧ nu < 2147483647) (et_sT (es_eqI x2 (es_opC x2 (es_call ((y0, 2)) x2 (ea_c x2 (mono_aC mono_aN) (es_var x2 rfl h0') (ea_c x2 mono_aN (es_int x2) (ea_n x2))) (by show (0 : Int) ≤ _; omega)) (es_int x2) (by first | (show (0 : Int) < _; omega) | (show (0 : Int) < _; decide +kernel))) (es_int x2))) x2 (fun hb => EvS.imp (es_opI (g := fun a b => a - b) x2 (es_varI (i := 4) x2 rfl) (es_int x2)) fun y hy => ?_) (fun hb => ⟨_, rfl, hnb0, hnb1⟩) fun nu B6 H6 s6 hnb => ?_
    · rw [hy]
      exact ⟨Bd.small (by omega), by omega, by omega⟩
    replace s := s.trans s6
    replace cl := cl.up s6
    replace hRr := Enc.ups _ s6.eb hRr
    replace eb := eb.trans s6.eb
    clear x2 h0' hnb0 hnb1
    have x2 := s.bh
    have d0 := Int.emod_nonneg nu (show 1 + (i : Int) ≠ 0 by omega)
    have d1 := Int.emod_lt_of_pos nu hk1
    have hdk := drawn_ok hr0 hr1 d0 d1 (show 1 + (i : Int) < y1 by omega)
    refine c_app (i := 3) cl s rfl (by rw [pl hRr]; omega) (es_tup3 (E := eI) (F := eI) (G := eI) (S := fun z => z = (y2 + nu % (1 + (i : Int))) % y1) (T := fun z => z = (y2 + (1 + (i : Int))) % y1) x2 (es_opC (g := fun a b => a % b) x2 (es_opI x2 (es_varI (i := 2) x2 rfl) (es_opC (g := fun a b => a % b) x2 (es_varI (i := 5) x2 rfl) (es_varI (i := 4) x2 rfl) hk1)) (es_varI (i := 1) x2 rfl) (by show (0 : Int) < _; omega)) (es_opC (g := fun a b => a % b) x2 (es_opI x2 (es_varI (i := 2) x2 rfl) (es_varI (i := 4) x2 rfl)) (es_varI (i := 1) x2 rfl) (by show (0 : Int) < _; omega)) ((es_opC (g := fun a b => a / b) x2 (es_varI (i := 5) x2 rfl) (es_varI (i := 4) x2 rfl) ⟨by omega, by omega⟩).imp (S' := fun z => 0 ≤ z ∧ z < 10000000000000000000000000000000000000000) fun z hz => ?_)) fun vr r B7 H7 s7 eb7 cl7 oth7 hr hvr => ?_
    · rw [hz]
      have h9 : 0 ≤ nu / (1 + (i : Int)) := Int.ediv_nonneg hnb.2.1 (by omega)
      have h8 : nu / (1 + (i : Int)) ≤ nu := Int.ediv_le_self _ hnb.2.1
      omega
    obtain ⟨e1, e2, e3⟩ := hr
    refine ⟨_, _, B7, _, rs ++ [r], rfl, s7, eb.trans eb7, cl7, Paired.snoc (Enc.ups _ eb7 hRr) hvr, fun q hq => ?_, by rw [List.length_append, List.length_singleton, hlen]⟩
    rcases List.mem_append.mp hq with z | z
    · exact hok q z
    · rw [List.mem_singleton.mp z]
      exact ⟨by rw [e1]; exact hdk.1.1, by rw [e1]; exact hdk.1.2, by rw [e2]; exact hdk.2.1.1, by rw [e2]; exact hdk.2.1.2, by rw [e1, e2]; exact hdk.2.2, e3.1, e3.2⟩
  obtain ⟨a, b, B', vs, rs, rfl, s, eb, cl, hRr, hok, hlen⟩ := w
  obtain ⟨B2, s2, eb2, hv, _⟩ := cell_pub (E := eR) cl s hRr
  replace h0 := Enc.up _ (eb.trans eb2) h0
  clear s cl hRr c1 x1 s1 eb eb2
  generalize V.ref l = vl at hv
  have x2 := s2.bh
  -- the tree
  refine q_setM (i := 6) (em_lcR (F := eO) (p := fun _ => true) (Tr := fun _ y => y = none) x2 (es_varI (i := 1) x2 rfl) (by omega) (by omega) (fun v => rfl) (fun _ _ _ _ _ _ => et_yes) (fun _ B3 H3 s3 _ _ _ => es_non s3.bh)) fun lt us ts B3 H3 s3 nt bt hlt hx hpp => ?_
  rw [filter_yes] at hx
  have htl : ts.length = y1.toNat := by rw [pair_len hx, rg_len]
  have ct : Cell H B3 H3 lt (.lst us) := ⟨fresh_back s2.eh nt, bt, hlt⟩
  have hpt : Paired (eTh.R B3) us (ts.map thO) := thOs_R hpp
  have htl2 : (ts.map thO).length = y1.toNat := by rw [List.length_map]; exact htl
  generalize ts.map thO = tr at hpt htl2
  replace s2 := s2.trans s3
  replace h0 := Enc.up _ s3.eb h0
  replace hv := Enc.up _ s3.eb hv
  clear x2 hx hpp nt bt hlt htl ts s3
  have x2 := s2.bh
  -- more roads
  refine q_setM (i := 7) (em_nil (E := eR) x2) fun lm ms xs B4 H4 s4 nm bm hlm hx hR => ?_
  cases hx
  cases hR
  have cm : Cell H B4 H4 lm (.lst []) := ⟨fresh_back s2.eh nm, bm, hlm⟩
  have hne : lt ≠ lm := ct.neN nm
  replace ct := ct.up s4
  replace s2 := s2.trans s4
  replace h0 := Enc.up _ s4.eb h0
  replace hv := Enc.up _ s4.eb hv
  replace hpt := Enc.ups _ s4.eb hpt
  clear x2 nm bm hlm s4
  have x2 := s2.bh
  refine q_cut (M := fun σ' H' => ∃ lm B' vs ms, σ' = [some v0, some (.int y1), some (.int y2), some vl, a, b, some (.ref lt), some (.ref lm), none, none, none, none] ∧ Stp B H B' H' ∧ Ex B4 B' ∧ Cell H B' H' lt (.lst us) ∧ Cell H B' H' lm (.lst vs) ∧ lt ≠ lm ∧ Paired (eR.R B') vs ms ∧ (∀ r ∈ ms, OkR y1 r) ∧ ms.length ≤ 20) ?_ ?_
  · have hcl : (cutP y0 (some 7) (some 27)).length ≤ 20 := cutP_seg y0 (by decide) (by decide)
    refine s_when (et_sT (es_opB (g := fun a b => decide (b < a)) x2 (es_varI (i := 1) x2 rfl) (es_int x2))) (fun hb H5 e5 => ?_) (fun hb H5 e5 => ⟨lm, B4, [], [], rfl, s2.goH e5, Ex.refl _, ct.go e5, cm.go e5, hne, .nil, (fun r hr => by cases hr), by decide⟩)
    have hm2 : 2 ≤ y1 := by
      have := of_decide_eq_true hb
      omega
    replace s2 := s2.goH e5
    replace ct := ct.go e5
    clear x2
    have x2 := s2.bh
    refine em_lcL (E := eI) (F := eR) (p := fun _ => true) (Tr := fun _ r => OkR y1 r) x2 (em_slS x2 (es_var x2 rfl h0) (eo_some' (es_int x2)) (eo_some' (es_int x2))).s (by omega) (fun v => rfl) (fun _ _ _ _ _ _ _ => et_yes) (fun z v B6 H6 s6 hz hR _ => ?_) _ (Ex.refl _) _ fun lm ms xs B6 H6 s6 nm bm hlm hx hR => ?_
    · cases hR
      exact (es_call (z, y1) s6.bh (ea_c s6.bh (mono_aC mono_aN) (es_varI (i := 11) s6.bh rfl) (ea_c s6.bh mono_aN (es_varI (i := 1) s6.bh rfl) (ea_n s6.bh))) ⟨hbd z (cutP_mem hz), hm2, hm12⟩)
    · rw [filter_yes] at hx
      exact ⟨lm, B6, ms, xs, rfl, s2.trans s6, s6.eb, ct.up s6, ⟨fresh_back s2.eh nm, bm, hlm⟩, ct.neN nm, hR, pair_all (P := OkR y1) (fun _ _ h => h) hx, by rw [pair_len hx]; exact hcl⟩
  rintro σ' H' ⟨lm, B5, ms, mr, rfl, s2, eb5, ct, cm, hne, hpm, hokm, hml⟩
  clear x2
  replace h0 := Enc.up _ eb5 h0
  replace hv := Enc.up _ eb5 hv
  replace hpt := Enc.ups _ eb5 hpt
  have x2 := s2.bh
  refine q_cut (M := fun σ' H' => ∃ B' vm ms, σ' = [some v0, some (.int y1), some (.int y2), some vl, a, b, some (.ref lt), some vm, none, none, none, none] ∧ Stp B H B' H' ∧ Ex B5 B' ∧ Cell H B' H' lt (.lst us) ∧ (eL eR).R B' vm ms ∧ (∀ r ∈ ms, OkR y1 r) ∧ ms.length ≤ 21 ∧ (2 < y1 → 0 < ms.length)) ?_ ?_
  · refine s_when (et_sT (es_opB (g := fun a b => decide (b < a)) x2 (es_varI (i := 1) x2 rfl) (es_int x2))) (fun hb H6 e6 => ?_) (fun hb H6 e6 => ?_)
    · have hm3 : 2 < y1 := of_decide_eq_true hb
      replace s2 := s2.goH e6
      replace ct := ct.go e6
      replace cm := cm.go e6
      clear x2
      have x2 := s2.bh
      have hdk := drawn_ok (k := y1 - 1) (d := 1) hr0 hr1 (by decide) (by omega) (by omega)
      refine c_app (i := 7) cm s2 rfl (by rw [pl hpm]; omega) (es_tup3 (E := eI) (F := eI) (G := eI) (S := fun z => z = (y2 + (y1 - 1)) % y1) (T := fun z => z = (y2 + 1) % y1) (U := fun z => z = 1) x2 ((es_opC (g := fun a b => a % b) x2 (es_opI (g := fun a b => a - b) x2 (es_opI (g := fun a b => a + b) x2 (es_varI (i := 2) x2 rfl) (es_varI (i := 1) x2 rfl)) (es_int x2)) (es_varI (i := 1) x2 rfl) (by show (0 : Int) < _; omega)).to (by show (y2 + y1 - 1) % y1 = _; congr 1; omega)) (es_opC (g := fun a b => a % b) x2 (es_opI (g := fun a b => a + b) x2 (es_varI (i := 2) x2 rfl) (es_int x2)) (es_varI (i := 1) x2 rfl) (by show (0 : Int) < _; omega)) (es_int x2)) fun vr r B7 H7 s7 eb7 cm7 oth7 hr hvr => ?_
      obtain ⟨e1, e2, e3⟩ := hr
      obtain ⟨B8, s8, eb8, hv8, oth8⟩ := cell_pub (E := eR) (xs := mr ++ [r]) cm7 s7 (Paired.snoc (Enc.ups _ eb7 hpm) hvr)
      refine ⟨B8, _, mr ++ [r], rfl, s8, eb7.trans eb8, oth8 lt _ hne (oth7 lt _ hne ct), hv8, fun q hq => ?_, by rw [List.length_append, List.length_singleton]; omega, fun _ => by rw [List.length_append, List.length_singleton]; omega⟩
      rcases List.mem_append.mp hq with z | z
      · exact hokm q z
      · rw [List.mem_singleton.mp z]
        exact ⟨by rw [e1]; exact hdk.2.1.1, by rw [e1]; exact hdk.2.1.2, by rw [e2]; exact hdk.1.1, by rw [e2]; exact hdk.1.2, by rw [e1, e2]; exact hdk.2.2.symm, by rw [e3]; decide, by rw [e3]; decide⟩
    · have hm3 : ¬ 2 < y1 := of_decide_eq_false hb
      obtain ⟨B8, s8, eb8, hv8, oth8⟩ := cell_pub (E := eR) (cm.go e6) (s2.goH e6) hpm
      exact ⟨B8, _, mr, rfl, s8, eb8, oth8 lt _ hne (ct.go e6), hv8, hokm, by omega, fun h => absurd h hm3⟩
  rintro σ' H' ⟨B6, vm, mr, rfl, s2, eb6, ct, hvm, hokm, hml, hmp⟩
  clear x2 cm hpm hne
  replace h0 := Enc.up _ eb6 h0
  replace hv := Enc.up _ eb6 hv
  replace hpt := Enc.ups _ eb6 hpt
  have x2 := s2.bh
  have hlp : (0 : Int) < (rs.length : Int) + (mr.length : Int) + 1 := by omega
  refine q_setI (i := 8) (n := cellM y0 3 % ((rs.length : Int) + (mr.length : Int) + 1)) (es_opC (g := fun a b => a % b) x2 (es_call (y0, 3) x2 (ea_c x2 (mono_aC mono_aN) (es_var (i := 0) x2 rfl h0) (ea_c x2 mono_aN (es_int x2) (ea_n x2))) (by show (0 : Int) ≤ 3; omega)) (es_opI (g := fun a b => a + b) x2 (es_opI (g := fun a b => a + b) x2 (es_lenL x2 (es_var (E := eL eR) (i := 3) x2 rfl hv)) (es_lenL x2 (es_var (E := eL eR) (i := 7) x2 rfl hvm))) (es_int x2)) hlp) fun H7 e7 => ?_
  have k0 := Int.emod_nonneg (cellM y0 3) (show (rs.length : Int) + (mr.length : Int) + 1 ≠ 0 by omega)
  have k1 := Int.emod_lt_of_pos (cellM y0 3) hlp
  generalize cellM y0 3 % ((rs.length : Int) + (mr.length : Int) + 1) = cut at k0 k1
  replace s2 := s2.goH e7
  replace ct := ct.go e7
  clear x2
  have x2 := s2.bh
  refine q_forR (n := (rs.length : Int)) (es_lenL x2 (es_var (E := eL eR) (i := 3) x2 rfl hv)) ⟨by omega, by omega⟩ (fun i σ' H' => ∃ a us tr B', σ' = [some v0, some (.int y1), some (.int y2), some vl, a, b, some (.ref lt), some vm, some (.int cut), none, none, none] ∧ Stp B H B' H' ∧ Ex B6 B' ∧ Cell H B' H' lt (.lst us) ∧ Paired (eTh.R B') us tr ∧ tr.length = y1.toNat)
    (fun H8 e8 => ⟨a, us, tr, B6, rfl, s2.goH e8, Ex.refl _, ct.go e8, hpt, htl2⟩) (fun i σ' H' hi w => ?_) (fun σ' H' w => ?_)
  · obtain ⟨a, us, tr, B7, rfl, s, eb7, c, hpt, htl⟩ := w
    have hv := Enc.up _ eb7 hv
    have hvm := Enc.up _ eb7 hvm
    have x3 := s.bh
    have hi' : i < rs.length := by omega
    have hr := List.getElem?_eq_getElem hi'
    generalize rs[i] = r at hr
    obtain ⟨_, _, q1, q2, _⟩ := hok r (List.mem_of_getElem? hr)
    refine c_setLY (i := 6) (j := r.2.1.toNat) (E := eTh) (S := fun _ => True) c s ((es_ITh (es_opC (g := fun a b => a % b) x3 (es_opI (g := fun a b => a - b) x3 (es_varI (i := 4) x3 rfl) (es_varI (i := 8) x3 rfl)) (es_opI (g := fun a b => a + b) x3 (es_lenL x3 (es_var (E := eL eR) (i := 3) x3 rfl hv)) (es_lenL x3 (es_var (E := eL eR) (i := 7) x3 rfl hvm))) (by show (0 : Int) < _; omega))).imp fun _ _ => True.intro) rfl (fun B1 H1 e x => ?_) (by rw [pl hpt]; omega) fun v y B9 H9 s9 eb9 c9 _ _ hy => ?_
    · rw [Int.toNat_of_nonneg q1]
      exact es_31 (t := r) x (es_ixL (E := eR) (i := (i : Int)) x (es_var (i := 3) x rfl (Enc.up _ e hv)) (es_varI (i := 4) x rfl) (by omega) (by rw [Int.toNat_natCast]; exact hr))
    · exact ⟨_, us.set r.2.1.toNat v, tr.set r.2.1.toNat y, B9, rfl, s9, eb7.trans eb9, c9, pset hy _ (Enc.ups _ eb9 hpt), by rw [List.length_set]; exact htl⟩
  obtain ⟨a, us, tr, B7, rfl, s2, eb7, ct, hpt, htl⟩ := w
  replace hv := Enc.up _ eb7 hv
  replace hvm := Enc.up _ eb7 hvm
  clear x2
  have x2 := s2.bh
  refine q_setS (i := 9) (em_cat x2 (es_var (E := eL eR) (i := 3) x2 rfl hv) (es_var (E := eL eR) (i := 7) x2 rfl hvm) (by omega)).s fun vq qs B8 H8 s8 hqs hvq => ?_
  replace s2 := s2.trans s8
  replace ct := ct.up s8
  replace hpt := Enc.ups _ s8.eb hpt
  clear x2
  have x2 := s2.bh
  have hql : qs.length = rs.length + mr.length := by rw [hqs, List.length_append]
  have hqok : ∀ r ∈ qs, OkR y1 r := fun r hr => by
    rw [hqs] at hr
    exact (List.mem_append.mp hr).elim (hok r) (hokm r)
  refine es_tup3 (E := eL eR) (F := eV) (G := eI) (S := fun z => z = qs.drop cut.toNat ++ qs.take cut.toNat) (T := fun z => z = .ref lt) (U := fun _ => True) x2 ((em_cat x2 (em_slL x2 (es_var (E := eL eR) (i := 9) x2 rfl hvq) (eo_some' (es_varI (i := 8) x2 rfl)) eo_none).s (em_slL x2 (es_var (E := eL eR) (i := 9) x2 rfl hvq) eo_none (eo_some' (es_varI (i := 8) x2 rfl))).s ?_).s.imp fun y hy => by rw [hy, cutP_from qs k0 (by omega), cutP_to qs k0 (by omega)]) (es_var (E := eV) (i := 6) x2 rfl rfl) ((es_opI (g := fun a b => a - b) x2 (es_opI (g := fun a b => a - b) x2 (es_lenL x2 (es_var (E := eL eR) (i := 9) x2 rfl hvq)) (es_int x2)) (es_varI (i := 8) x2 rfl)).imp fun _ _ => True.intro) _ (Ex.refl _) _ fun w y B9 H9 s9 hy hR => ?_
  · have k1 := cutP_len qs (some cut) none
    have k2 := cutP_len qs none (some cut)
    omega
  · obtain ⟨t, u1, u2, u3, rfl, ht, g1, g2, g3⟩ := hR
    obtain ⟨hy1, hy2, _⟩ := hy
    have g2 : u2 = y.2.1 := g2
    have g3 : u3 = .int y.2.2 := g3
    rw [g2, hy2, g3] at ht
    rw [hy1] at g1
    have c9 := ct.up s9
    refine q t u1 lt us _ tr y.2.2 B9 H9 (s2.trans s9) ht g1 c9.n c9.b c9.h ⟨fun r hr => hqok r (turn_mem.mp hr), ?_, fun h3 => ?_, htl⟩ (Enc.ups _ s9.eb hpt)
    · show (qs.drop cut.toNat ++ qs.take cut.toNat).length ≤ 60
      rw [List.length_append, List.length_drop, List.length_take]
      omega
    · show 0 < (qs.drop cut.toNat ++ qs.take cut.toNat).length
      have := hmp h3
      rw [List.length_append, List.length_drop, List.length_take]
      omega
end
end RR
namespace RR
open PySem L2 Evl PyProof.Rows L2H RRH
section
variable {P : Program} {w : World} {K : PySem.W.Frag} {mg : Str → Option Value} {base : Heap} {C_BadTree C_RoadError : Addr}

theorem roomS {X : Cx} {k : Nat} {a : Addr} {pn : List (Addr × Obj)} (r : Room k X.A) : RoomH k (X.suite a pn).A := ⟨r.dp, r.un⟩
/-- a promise: a list of its own, or an error -/
def SpecB {ι β : Type} (A : ι → Hp → List V → Prop) (Pre T : ι → Prop) (F : Enc β) (Post : ι → List β → Prop) (C : Addr) : Sp := fun vs H Q E => ∃ (i : ι) (B : Hp), Ex B H ∧ A i B vs ∧ Pre i ∧
  (T i → ∀ p ws ys B2 H2, Stp B H B2 H2 → H p = none → B2 p = none → H2 p = some (.lst ws) → Post i ys → Paired (F.R B2) ws ys → Q (.ref p) H2) ∧ (¬ T i → ∀ B2 H2, Stp B H B2 H2 → E (.ref C) none H2)
theorem b_callS {ι β : Type} {A : ι → Hp → List V → Prop} {Pre T : ι → Prop} {F : Enc β} {Post : ι → List β → Prop} {C : Addr} {ar : TA} {σ : L2.St} {B H : Hp} {W : WX} {Q : VK} (i : ι) (h : EvAr ar σ B H (A i)) (p : Pre i)
    (k1 : T i → ∀ p ws ys B2 H2, Stp B H B2 H2 → H p = none → B2 p = none → H2 p = some (.lst ws) → Post i ys → Paired (F.R B2) ws ys → Q (.ref p) H2) (k2 : ¬ T i → ∀ B2 H2, Stp B H B2 H2 → W (.ref C) none σ H2) :
    tCallS (SpecB A Pre T F Post C) (WE W) ar σ H Q :=
  h H (Ex.refl _) _ fun vs B2 H2 t hA => ⟨i, B2, t.bh, hA, p, fun hT p ws ys B3 H3 t2 a b c d e => k1 hT p ws ys B3 H3 (t.trans t2) (fresh_back t.eh a) b c d e, fun hT B3 H3 t2 => k2 hT B3 H3 (t.trans t2)⟩
section
variable {P : Program} {w : World} {K : PySem.W.Frag} {mg : Str → Option Value} {base : Heap}
theorem mk_defBN {ι β : Type} {A : ι → Hp → List V → Prop} {Pre T : ι → Prop} {F : Enc β} {Post : ι → List β → Prop} {C : Addr} {x : Str} {st : Stmt} {N ps : List Str} {k : Nat} (F0 : FunAt K mg x st) (S : FnScope N ps (defScope st))
    (bi : ∀ (kV doc pm : Value) (an : Option Addr) (cdv ct : Value) (us : List Value), us.length = ps.length → bindArgs (PySem.W.fnOf x x (defArgs st) (defBody st) (defScope st) .none kV doc pm an cdv ct) ⟨us, []⟩ = pure (ps.zip us))
    (hl : ∀ i, LenA ps.length (A i))
    (hbody : ∀ (f : Addr) (cdv : Value) (A0 : Around) (outer : List Env) (s : Shared) (E : XK) (i : ι) (B H : Hp) (vs : List V) (Q : VK), Room k (A0.deeper (envOfC x (defScope st) s.heap.objs.size f cdv)) → Ex B H → A i B vs → Pre i →
      (T i → ∀ p ws ys B2 H2, Stp B H B2 H2 → H p = none → B2 p = none → H2 p = some (.lst ws) → Post i ys → Paired (F.R B2) ws ys → Q (.ref p) H2) → (¬ T i → ∀ B2 H2, Stp B H B2 H2 → E (.ref C) none H2) →
      ∃ t, PSs (cxOf (L2N.CX P w) P w K mg base N x (defScope st) f cdv A0 outer s H E) (defBody st) t ∧ t { nx := fun _ H' => Q .non H', rt := Q } (start N vs) H) : DefOkXN P w K mg base (k + 1) x ps (SpecB A Pre T F Post C) := by
  obtain ⟨f, fd, F1, hm⟩ := F0
  refine ⟨f, fd, ?_, hm, F1.kp, F1.binds (ps := ps) bi⟩
  obtain ⟨oc, od, kV, doc, pm, an, cdv, ct, osl, rfl, lk, hcd⟩ := F1.ex
  refine fn_of lk hcd S (fun vs H Q E h => ?_) (fun A0 outer s H vs Q E hr h => ?_)
  · obtain ⟨i, B, _, hA, _⟩ := h
    exact hl i B vs hA
  · obtain ⟨i, B, x0, hA, hp, q1, q2⟩ := h
    exact hbody f cdv A0 outer s E i B H vs Q hr x0 hA hp q1 q2
end

abbrev sp_wayB (C : Addr) : Sp := SpecB (ar5 eI (eL eR) eI (eL eTh) eI) (fun i => Net i.1 i.2.1 ∧ 0 ≤ i.2.2.1 ∧ i.2.2.1 < i.1 ∧ 0 ≤ i.2.2.2.2 ∧ i.2.2.2.2 < i.1 ∧ i.2.2.2.1.length ≤ 100) (fun i => IsTree i.1 i.2.1 i.2.2.1 i.2.2.2.1) eI (fun i y => y = wayL i.1 i.2.1 i.2.2.1 i.2.2.2.1 i.2.2.2.2) C
theorem d_wayBRN (F0 : FunAt K mg "way" s_way) (T : Txt K mg) (XC_BadTree : ExcT K mg "BadTree" C_BadTree) (G_checked : DefOk P w K mg base 4 "checked" ["many", "roads"] sp_checked) (G_need_place : DefOk P w K mg base 3 "need_place" ["many", "place"] sp_need) (G_stands : DefOk P w K mg base 3 "stands" ["many", "roads", "root", "tree"] sp_stands) : DefOkXN P w K mg base 5 "way" ["many", "roads", "root", "tree", "place"] (sp_wayB C_BadTree) := by
  refine mk_defBN (k := 4) F0 sc_way (fun _ _ _ _ _ _ us hl => match us, hl with | [_, _, _, _, _], _ => rfl) (fun _ => (lenC (lenC (lenC (lenC (lenC lenN)))))) ?_
  intro f cdv A0 outer s E i B H vs Q hr x0 hA hp q1 q2
  obtain ⟨v0, _, _, rfl, rfl, h0, v1, _, _, rfl, rfl, h1, v2, _, _, rfl, rfl, h2, v3, _, _, rfl, rfl, h3, v4, _, _, rfl, rfl, h4, rfl⟩ := hA
  obtain ⟨y0, y1, y2, y3, y4⟩ := i
  (try dsimp only at h0); (try dsimp only at h1); (try dsimp only at h2); (try dsimp only at h3); (try dsimp only at h4); (try dsimp only at hp); (try dsimp only at q1); (try dsimp only at q2)
  by_cases hT : IsTree y0 y1 y2 y3
  · replace hp := And.intro hp.1 (And.intro hp.2.1 (And.intro hp.2.2.1 (And.intro hp.2.2.2.1 (And.intro hp.2.2.2.2.1 (And.intro hp.2.2.2.2.2 hT)))))
    clear hT
    have q := q1 hp.2.2.2.2.2.2
    clear q1 q2
    refine ⟨_, PSs.nox (pss_cons (ps_expr (pe_callD G_checked (hr.mono (by decide)) (by rfl) (pa_cons (pv 0) (pa_cons (pv 1) pa_nil))))
      (pss_cons (ps_expr (pe_callD G_need_place (hr.mono (by decide)) (by rfl) (pa_cons (pv 0) (pa_cons (pv 2) pa_nil))))
      (pss_cons (ps_expr (pe_callD G_need_place (hr.mono (by decide)) (by rfl) (pa_cons (pv 0) (pa_cons (pv 4) pa_nil))))
      (pss_cons (ps_if (pt_not (pt_val (pe_callD G_stands (hr.mono (by decide)) (by rfl) (pa_cons (pv 0) (pa_cons (pv 1) (pa_cons (pv 2) (pa_cons (pv 3) pa_nil))))))) (pss_one ps_never) pss_nil)
      (pss_cons (ps_set (i := 5) sc_way.nd rfl (by first | exact Or.inl rfl | exact Or.inr rfl) (pe_lst pa_nil))
      (pss_cons (ps_while PassesOwn.never (pt_cmpR op_ne (pv 4) (pv 2) (nomark _)) (pss_cons (ps_expr (pe_bm PySem.F.plainAttrs_list PySem.F.slot_list_append PySem.F.type_list_append mt_append (pv 5) (pa_cons (pe_ix (k_ixl (K := K) rfl) (pv 3) (pv 4) (fun _ _ => rfl)) pa_nil)))
      (pss_one (ps_set (i := 4) sc_way.nd rfl (by first | exact Or.inl rfl | exact Or.inr rfl) (pe_ix (k_ixt (K := K) rfl) (pe_ix (k_ixl (K := K) rfl) (pv 1) (pe_ix (k_ixl (K := K) rfl) (pv 3) (pv 4) (fun _ _ => rfl)) (fun _ _ => rfl)) pe_int (fun _ _ => rfl))))))
      (pss_cons (ps_expr (pe_bm0 PySem.F.plainAttrs_list PySem.F.slot_list_reverse PySem.F.type_list_reverse mt_reverse (pv 5)))
      (pss_one (ps_ret (pv 5)))))))))), ?_⟩
    cases h0
    cases h2
    cases h4
    obtain ⟨hN, r0, r1, p0, p1, hl, hT⟩ := hp
    refine q_dropS (es_call (y0, y1) x0 (ea_c x0 (mono_aC mono_aN) (es_varI (i := 0) x0 rfl) (ea_c x0 mono_aN (es_var (E := eL eR) (i := 1) x0 rfl h1) (ea_n x0))) hN) fun v x B1 H1 s1 _ _ => ?_
    have x1 := s1.bh
    refine q_dropS (es_call (y0, y2) x1 (ea_c x1 (mono_aC mono_aN) (es_varI (i := 0) x1 rfl) (ea_c x1 mono_aN (es_varI (i := 2) x1 rfl) (ea_n x1))) ⟨r0, r1⟩) fun v x B2 H2 s2 _ _ => ?_
    replace s1 := s1.trans s2
    clear x1
    have x1 := s1.bh
    refine q_dropS (es_call (y0, y4) x1 (ea_c x1 (mono_aC mono_aN) (es_varI (i := 0) x1 rfl) (ea_c x1 mono_aN (es_varI (i := 4) x1 rfl) (ea_n x1))) ⟨p0, p1⟩) fun v x B3 H3 s3 _ _ => ?_
    replace s1 := s1.trans s3
    clear x1 s2 s3
    have x1 := s1.bh
    replace h1 := Enc.up _ s1.eb h1
    replace h3 := Enc.up _ s1.eb h3
    refine q_when (b := false) (et_is (et_not (et_sB (es_dec (es_call (y0, y1, y2, y3) x1 (ea_c x1 (mono_aC (mono_aC (mono_aC mono_aN))) (es_varI (i := 0) x1 rfl) (ea_c x1 (mono_aC (mono_aC mono_aN)) (es_var (E := eL eR) (i := 1) x1 rfl h1) (ea_c x1 (mono_aC mono_aN) (es_varI (i := 2) x1 rfl) (ea_c x1 mono_aN (es_var (E := eL eTh) (i := 3) x1 rfl h3) (ea_n x1))))) ⟨hN, r0, r1, hl⟩)))) (by show (!pd (IsTree y0 y1 y2 y3)) = false; rw [pd_true.mpr hT]; rfl)) (fun hb => by cases hb) (fun hb H4 e4 => ?_)
    replace s1 := s1.goH e4
    clear x1
    have x1 := s1.bh
    have hm1 := hN.lo
    have hm12 := hN.hi
    have hg : ∀ v, 0 ≤ v → v < y0 → 0 ≤ goB y1 y3 y2 v ∧ goB y1 y3 y2 v < y0 := fun v a b => goB_in hN.ok r0 r1 hT.inn a b
    have hgr := goB_root y1 y3 y2
    have hback : ∀ v, 0 ≤ v → v < y0 → v ≠ y2 → ∃ n r, y3[v.toNat]? = some (.int n) ∧ 0 ≤ n ∧ y1[n.toNat]? = some r ∧ goB y1 y3 y2 v = r.1 := fun v a b c => back_next c (hT.inn v a b c)
    have hend := hT.back y4 p0 p1
    unfold wayL at q
    generalize goB y1 y3 y2 = g at hg hgr hback hend q
    refine q_setM (i := 5) (em_nil (E := eI) x1) fun l vs xs B5 H5 s5 nl bl hl5 hx hR => ?_
    cases hx
    cases hR
    have cl : Cell H B5 H5 l (.lst ((stpW g (edgeT y3) y2 0 y4).1.reverse.map V.int)) := ⟨fresh_back s1.eh nl, bl, hl5⟩
    replace s1 := s1.trans s5
    replace h1 := Enc.up _ s5.eb h1
    replace h3 := Enc.up _ s5.eb h3
    clear x1 s5 nl bl hl5
    refine q_while (W := fun n σ' H' => ∃ L, σ' = [some (.int y0), some v1, some (.int y2), some v3, some (.int (itn g L y4)), some (.ref l)] ∧ Stp B H B5 H' ∧ Cell H B5 H' l (.lst ((stpW g (edgeT y3) y2 L y4).1.reverse.map V.int)) ∧ n + L = y0.toNat) y0.toNat
      ⟨0, rfl, s1, cl, rfl⟩ (fun n σ' H' w => ?_)
    clear cl s1
    obtain ⟨L, rfl, s, cl, hn⟩ := w
    have xH := s.bh
    have hm := itn_in hg p0 p1 L
    refine ⟨!decide (itn g L y4 = y2), et_sT (es_neI xH (es_varI (i := 4) xH rfl) (es_varI (i := 2) xH rfl)), fun hb H5 e5 => ?_, fun hb H5 e5 => ?_⟩
    · have hne : itn g L y4 ≠ y2 := by simpa using hb
      have hL : L < y0.toNat := by
        refine Classical.byContradiction fun z => hne ?_
        have : L = y0.toNat := by omega
        rw [this]
        exact hend
      replace cl := cl.go e5
      replace s := s.goH e5
      clear xH
      have x5 := s.bh
      refine ⟨fun σ' H' => ∃ L', σ' = [some (.int y0), some v1, some (.int y2), some v3, some (.int (itn g L' y4)), some (.ref l)] ∧ Stp B H B5 H' ∧ Cell H B5 H' l (.lst ((stpW g (edgeT y3) y2 L' y4).1.reverse.map V.int)) ∧ L' = L + 1,
        fun σ2 H6 ⟨L', k1, k2, k3, k4⟩ => ⟨n - 1, by omega, L', k1, k2, k3, by omega⟩, ?_⟩
      obtain ⟨nn, r, k1, k2, k3, k4⟩ := hback _ hm.1 hm.2 hne
      have hlen := stpW_len (g := g) (e := edgeT y3) (ro := y2) (v := y4) L
      refine c_appI (D := { nx := _, rt := _, bk := _, ct := _ }) (i := 5) cl s rfl (by rw [List.length_map, List.length_reverse]; omega) (es_thI (es_ixL (E := eTh) (x := Th.int nn) x5 (es_var (i := 3) x5 rfl h3) (es_varI (i := 4) x5 rfl) hm.1 k1)) fun H6 s6 c6 _ => ?_
      have x6 := s6.bh
      refine s_asg (i := 4) (v := .int (itn g (L + 1) y4)) (ev_sI (B := B5) ((es_30 (t := r) x6 (es_ixL (E := eR) (i := nn) x6 (es_var (i := 1) x6 rfl h1) (es_thI (es_ixL (E := eTh) (x := Th.int nn) x6 (es_var (i := 3) x6 rfl h3) (es_varI (i := 4) x6 rfl) hm.1 k1)) k2 k3)).to k4.symm)) fun H7 e7 => ⟨L + 1, rfl, s6.goH e7, ?_, rfl⟩
      rw [stpW_on hgr hne, List.reverse_cons, List.map_append, edgeT_eq k1]
      exact c6.go e7
    · have he : itn g L y4 = y2 := by simpa using hb
      refine q_rev (i := 5) (cl.go e5) (s.goH e5) rfl fun H6 s6 c6 => ?_
      refine s_ret (ev_var (v := .ref l) (i := 5) rfl) fun H7 e7 => ?_
      have c7 := c6.go e7
      rw [← List.map_reverse, List.reverse_reverse] at c7
      refine q l _ _ B5 H7 (s6.goH e7) c7.n c7.b c7.h ?_ (pI' _)
      rw [← hn, Nat.add_comm, stpW_end hgr he]
  · replace hp := And.intro hp.1 (And.intro hp.2.1 (And.intro hp.2.2.1 (And.intro hp.2.2.2.1 (And.intro hp.2.2.2.2.1 (And.intro hp.2.2.2.2.2 hT)))))
    clear hT
    have q := q2 hp.2.2.2.2.2.2
    clear q1 q2
    refine ⟨_, (pss_cons (ps_expr (pe_callD G_checked (hr.mono (by decide)) (by rfl) (pa_cons (pv 0) (pa_cons (pv 1) pa_nil)))) (pss_cons (ps_expr (pe_callD G_need_place (hr.mono (by decide)) (by rfl) (pa_cons (pv 0) (pa_cons (pv 2) pa_nil)))) (pss_cons (ps_expr (pe_callD G_need_place (hr.mono (by decide)) (by rfl) (pa_cons (pv 0) (pa_cons (pv 4) pa_nil)))) (pss_cons (ps_if (pt_not (pt_val (pe_callD G_stands (hr.mono (by decide)) (by rfl) (pa_cons (pv 0) (pa_cons (pv 1) (pa_cons (pv 2) (pa_cons (pv 3) pa_nil))))))) (pss_one (L2N.ps_raise rfl (L2N.takes_of rfl rfl rfl rfl) (L2N.pmk_own PySem.F.excBase_ValueError XC_BadTree.ex XC_BadTree.g XC_BadTree.kp (raises_own XC_BadTree.sb XC_BadTree.ty) rfl))) pss_nil) pss_never)))), ?_⟩
    cases h0
    cases h2
    cases h4
    obtain ⟨hN, r0, r1, p0, p1, hl, hT⟩ := hp
    refine q_dropS (es_call (y0, y1) x0 (ea_c x0 (mono_aC mono_aN) (es_varI (i := 0) x0 rfl) (ea_c x0 mono_aN (es_var (E := eL eR) (i := 1) x0 rfl h1) (ea_n x0))) hN) fun v x B1 H1 s1 _ _ => ?_
    have x1 := s1.bh
    refine q_dropS (es_call (y0, y2) x1 (ea_c x1 (mono_aC mono_aN) (es_varI (i := 0) x1 rfl) (ea_c x1 mono_aN (es_varI (i := 2) x1 rfl) (ea_n x1))) ⟨r0, r1⟩) fun v x B2 H2 s2 _ _ => ?_
    replace s1 := s1.trans s2
    clear x1
    have x1 := s1.bh
    refine q_dropS (es_call (y0, y4) x1 (ea_c x1 (mono_aC mono_aN) (es_varI (i := 0) x1 rfl) (ea_c x1 mono_aN (es_varI (i := 4) x1 rfl) (ea_n x1))) ⟨p0, p1⟩) fun v x B3 H3 s3 _ _ => ?_
    replace s1 := s1.trans s3
    clear x1 s2 s3
    have x1 := s1.bh
    replace h1 := Enc.up _ s1.eb h1
    replace h3 := Enc.up _ s1.eb h3
    refine s_when (b := true) (et_is (et_not (et_sB (es_dec (es_call (y0, y1, y2, y3) x1 (ea_c x1 (mono_aC (mono_aC (mono_aC mono_aN))) (es_varI (i := 0) x1 rfl) (ea_c x1 (mono_aC (mono_aC mono_aN)) (es_var (E := eL eR) (i := 1) x1 rfl h1) (ea_c x1 (mono_aC mono_aN) (es_varI (i := 2) x1 rfl) (ea_c x1 mono_aN (es_var (E := eL eTh) (i := 3) x1 rfl h3) (ea_n x1))))) ⟨hN, r0, r1, hl⟩)))) ?_) (fun hb H4 e4 => q _ H4 (s1.goH e4)) (fun hb => by cases hb)
    show (!pd (IsTree y0 y1 y2 y3)) = true
    rw [pd_false.mpr hT]
    rfl
end
end RR
namespace RR
open PySem L2 Evl PyProof.Rows L2H RRH
section
variable {P : Program} {w : World} {K : PySem.W.Frag} {mg : Str → Option Value} {base : Heap} {C_BadTree C_RoadError : Addr}

abbrev spLaw (K : PySem.W.Frag) : Sp := Spec (ar1 (eScr K)) (fun ns => ns.length ≤ 63 ∧ ∀ n ∈ ns, Bd n) eB (fun _ y => y = true)
theorem d_law {f : Addr} {fd : FuncData} (F0 : Fun K "law" "law" s_law f fd) (T : Txt K mg) (XC_BadTree : ExcT K mg "BadTree" C_BadTree) (S_BadTree_BadTree : PySem.W.subIn K (.ref C_BadTree) (.ref C_BadTree) = some true) (G__law_cell_at : DefOk P w K mg base 1 "_law_cell_at" ["_law_script", "_law_k"] (sp_cell K)) (G__law_many : DefOk P w K mg base 1 "_law_many" ["_law_cell"] sp_many) (G__law_built : DefOk P w K mg base 3 "_law_built" ["_law_script", "_law_many_here", "_law_root"] (sp_built K)) (G__law_ways : DefOk P w K mg base 2 "_law_ways" ["_law_many_here", "_law_roads", "_law_root", "_law_tree"] sp_lways) (G_wayBRN : DefOkXN P w K mg base 5 "way" ["many", "roads", "root", "tree", "place"] (sp_wayB C_BadTree)) (G__law_refusedH : DefOkH P w K mg base 6 "_law_refused" ["_law_many_here", "_law_roads", "_law_root", "_law_tree", "_law_place"] sp_refused) : FnOk P w K mg base CX0 7 f fd ["_law_script"] (spLaw K) := by
  refine mk_fn (k := 6) F0 sc_law (fun _ => (lenC lenN)) ?_
  intro cdv A0 outer s E i B H vs Q hr x0 hA hp q
  obtain ⟨v0, y0, _, rfl, rfl, h0, rfl⟩ := hA
  refine ⟨_, (pss_cons (ps_set (i := 1) sc_law.nd rfl (by first | exact Or.inl rfl | exact Or.inr rfl) (pe_callD G__law_many (hr.mono (by decide)) (by rfl) (pa_cons (pe_callD G__law_cell_at (hr.mono (by decide)) (by rfl) (pa_cons (pv 0) (pa_cons pe_int pa_nil))) pa_nil)))
      (pss_cons (ps_set (i := 2) sc_law.nd rfl (by first | exact Or.inl rfl | exact Or.inr rfl) (pe_op op_mod (pe_callD G__law_cell_at (hr.mono (by decide)) (by rfl) (pa_cons (pv 0) (pa_cons pe_int pa_nil))) (pv 1)))
      (pss_cons (ps_set (i := 3) sc_law.nd rfl (by first | exact Or.inl rfl | exact Or.inr rfl) (pe_callD G__law_built (hr.mono (by decide)) (by rfl) (pa_cons (pv 0) (pa_cons (pv 1) (pa_cons (pv 2) pa_nil)))))
      (pss_cons (ps_set (i := 4) sc_law.nd rfl (by first | exact Or.inl rfl | exact Or.inr rfl) (pe_ix (k_ixt (K := K) rfl) (pv 3) pe_int (fun _ _ => rfl)))
      (pss_cons (ps_set (i := 5) sc_law.nd rfl (by first | exact Or.inl rfl | exact Or.inr rfl) (pe_ix (k_ixt (K := K) rfl) (pv 3) pe_int (fun _ _ => rfl)))
      (pss_cons (ps_set (i := 6) sc_law.nd rfl (by first | exact Or.inl rfl | exact Or.inr rfl) (pe_callD G__law_cell_at (hr.mono (by decide)) (by rfl) (pa_cons (pv 0) (pa_cons pe_int pa_nil))))
      (pss_cut (ps_if (pt_cmpR op_eq (pe_op op_mod (pe_callD G__law_cell_at (hr.mono (by decide)) (by rfl) (pa_cons (pv 0) (pa_cons pe_int pa_nil))) pe_int) pe_int (nomark _)) (pss_cons (ps_set (i := 7) sc_law.nd rfl (by first | exact Or.inl rfl | exact Or.inr rfl) (pe_op op_mod (pe_op op_fdiv (pv 6) pe_int) (pv 1)))
      (pss_cons (ps_set (i := 8) sc_law.nd rfl (by first | exact Or.inl rfl | exact Or.inr rfl) (pe_op op_fdiv (pe_op op_fdiv (pv 6) pe_int) (pv 1)))
      (pss_cons (ps_set (i := 9) sc_law.nd rfl (by first | exact Or.inl rfl | exact Or.inr rfl) (pe_ix (k_ixl (K := K) rfl) (pe_lst (pa_cons (pe_op op_mod (pv 8) (pe_op op_add (pe_callB (k_len (K := K) rfl) (by rfl) T.b_len (by decide +kernel) (pa_cons (pv 4) pa_nil)) pe_int)) (pa_cons pe_non (pa_cons pe_bl (pa_cons pe_str (pa_cons (pe_lst (pa_cons pe_int pa_nil)) (pa_cons pe_dnewK (pa_cons (pe_tup (pa_cons pe_int (pa_cons (pe_lst (pa_cons pe_int pa_nil)) pa_nil))) (pa_cons (pe_un un_neg pe_int) (pa_cons pe_bl pa_nil)))))))))) (pe_op op_mod (pv 6) pe_int) (fun _ _ => rfl)))
      (pss_cons (ps_setLc (i := 10) (own := [("_law_number", 16)]) (g := gName 16) rfl sc_law.nd rfl rfl (sw_true rfl rfl rfl (by decide +kernel)) (pi_range1 (by rfl) T.b_range (pa_cons (pe_callB (k_len (K := K) rfl) (by rfl) T.b_len (by decide +kernel) (pa_cons (pv 4) pa_nil)) pa_nil)) (blkOk_by (N := N_law) (sc := defScope s_law) (by decide +kernel)) (fun _ _ _ _ _ => pg_name (i := 16) sc_law.nd rfl (Or.inl rfl)) (fun _ _ _ _ _ => (pts_one (pt_cmpR op_eq (pe_ix (k_ixt (K := K) rfl) (pe_ix (k_ixl (K := K) rfl) (pv 4) (pv 16) (fun _ _ => rfl)) pe_int (fun _ _ => rfl)) (pv 7) (nomark _)))) (fun _ _ _ _ _ => (pv 16)))
      (pss_cons (ps_if (pw_and (pt_cmpR op_eq (pe_op op_mod (pe_op op_fdiv (pe_callD G__law_cell_at (hr.mono (by decide)) (by rfl) (pa_cons (pv 0) (pa_cons pe_int pa_nil))) pe_int) pe_int) pe_int (nomark _)) (pw_and1 (pt_cmpR op_gt (pe_callB (k_len (K := K) rfl) (by rfl) T.b_len (by decide +kernel) (pa_cons (pv 10) pa_nil)) pe_int (nomark _)))).pt (pss_one (ps_set (i := 9) sc_law.nd rfl (by first | exact Or.inl rfl | exact Or.inr rfl) (pe_ix (k_ixl (K := K) rfl) (pv 10) (pe_op op_mod (pv 8) (pe_callB (k_len (K := K) rfl) (by rfl) T.b_len (by decide +kernel) (pa_cons (pv 10) pa_nil))) (fun _ _ => rfl)))) pss_nil)
      (pss_one (ps_set (i := 5) sc_law.nd rfl (by first | exact Or.inl rfl | exact Or.inr rfl) (pe_op op_cat (pe_op op_cat (pe_slice (k_sll (K := K) rfl) (pv 5) po_none (po_some (pv 7))) (pe_lst (pa_cons (pv 9) pa_nil))) (pe_slice (k_sll (K := K) rfl) (pv 5) (po_some (pe_op op_add (pv 7) pe_int)) po_none))))))))) pss_nil)
      (pss_cut (ps_if (pw_and (pt_cmpR op_eq (pe_op op_mod (pe_callD G__law_cell_at (hr.mono (by decide)) (by rfl) (pa_cons (pv 0) (pa_cons pe_int pa_nil))) pe_int) pe_int (nomark _)) (pw_and1 (pt_cmpR op_gt (pv 1) pe_int (nomark _)))).pt (pss_one (ps_asg (pe_op op_mod (pe_ix (k_ixt (K := K) rfl) (pv 3) pe_int (fun _ _ => rfl)) (pe_callB (k_len (K := K) rfl) (by rfl) T.b_len (by decide +kernel) (pa_cons (pv 4) pa_nil))) (pg_sub (pv 5) (pe_op op_mod (pe_op op_add (pv 2) pe_int) (pv 1)) set_list))) pss_nil)
      (pss_cons (ps_set (i := 11) sc_law.nd rfl (by first | exact Or.inl rfl | exact Or.inr rfl) (pe_op op_mod (pe_callD G__law_cell_at (hr.mono (by decide)) (by rfl) (pa_cons (pv 0) (pa_cons pe_int pa_nil))) (pv 1)))
      (pss_cons (ps_set (i := 12) sc_law.nd rfl (by first | exact Or.inl rfl | exact Or.inr rfl) (pe_callD G__law_ways (hr.mono (by decide)) (by rfl) (pa_cons (pv 1) (pa_cons (pv 4) (pa_cons (pv 2) (pa_cons (pv 5) pa_nil))))))
      (pss_cons (ps_set (i := 13) sc_law.nd rfl (by first | exact Or.inl rfl | exact Or.inr rfl) (pe_lst (pa_cons (pe_callTy (k_list (K := K) rfl) (by rfl) T.b_list (by decide +kernel) (pa_cons (pv 4) pa_nil)) (pa_cons (pe_callTy (k_list (K := K) rfl) (by rfl) T.b_list (by decide +kernel) (pa_cons (pv 5) pa_nil)) pa_nil))))
      (pss_cons (L2N.ps_try_many rfl rfl takes_noneN (fun W pn xe tk _ => (pss_one (ps_set (i := 14) sc_law.nd rfl (by first | exact Or.inl rfl | exact Or.inr rfl) (pe_callTN G_wayBRN (hr.mono (by decide)) (by rfl) tk (pa_cons (pv 1) (pa_cons (pe_ix (k_ixl (K := K) rfl) (pv 13) pe_int (fun _ _ => rfl)) (pa_cons (pv 2) (pa_cons (pe_ix (k_ixl (K := K) rfl) (pv 13) pe_int (fun _ _ => rfl)) (pa_cons (pv 11) pa_nil))))))))) (L2N.HdsOk.cons ⟨rfl, by decide, .inl XC_BadTree.g⟩ (fun a oe cls d pn hz hf => (pss_cons (ps_if (pt_not (pt_val (pe_callDH G__law_refusedH ((roomS hr).mono (by decide)) (HotC.suite hz hf) (by rfl) (pa_cons (pv 1) (pa_cons (pe_ix (k_ixl (K := K) rfl) (pv 13) pe_int (fun _ _ => rfl)) (pa_cons (pv 2) (pa_cons (pe_ix (k_ixl (K := K) rfl) (pv 13) pe_int (fun _ _ => rfl)) (pa_cons (pv 11) pa_nil)))))))) (pss_one (ps_ret pe_bl)) pss_nil)
      (pss_one (ps_ret (pe_and (pe_cmpR op_isN (pv 12) pe_non (nomark _)) (pe_one (pe_cmpR (k_cpEq hr.units (K := K) rfl) (pv 13) (pe_lst (pa_cons (pv 4) (pa_cons (pv 5) pa_nil))) (nomark _)))))))) L2N.HdsOk.nil))
      (pss_cons (ps_if (pw_or (pt_cmpR op_isN (pv 12) pe_non (nomark _)) (pw_or (pt_not (pt_val (pe_callB (k_isi (K := K) rfl) (by rfl) T.b_isinstance (by decide +kernel) (pa_cons (pv 14) (pa_cons (pe_bltn (v := .ty "list") (u := .type "list") (by rfl) T.b_list (by decide +kernel) rfl) pa_nil))))) (pw_or1 (pt_cmpR (k_cpNe hr.units (K := K) rfl) (pv 13) (pe_lst (pa_cons (pv 4) (pa_cons (pv 5) pa_nil))) (nomark _))))).pt (pss_one (ps_ret pe_bl)) pss_nil)
      (pss_cons (ps_for PassesOwn.never rfl (pi_list (pv 14)) (pg_name (i := 15) sc_law.nd rfl (by first | exact Or.inl rfl | exact Or.inr rfl)) (pss_one (ps_if (pw_or (pt_not (pt_val (pe_callB (k_isi (K := K) rfl) (by rfl) T.b_isinstance (by decide +kernel) (pa_cons (pv 15) (pa_cons (pe_bltn (v := .ty "int") (u := .type "int") (by rfl) T.b_int (by decide +kernel) rfl) pa_nil))))) (pw_or1 (pt_val (pe_callB (k_isi (K := K) rfl) (by rfl) T.b_isinstance (by decide +kernel) (pa_cons (pv 15) (pa_cons (pe_bltn (v := .ty "bool") (u := .type "bool") (by rfl) T.b_bool (by decide +kernel) rfl) pa_nil)))))).pt (pss_one (ps_ret pe_bl)) pss_nil)))
      (pss_one (ps_ret (pe_cmpR (k_eqD hr.units (K := K) rfl) (pv 14) (pe_ix (k_ixl (K := K) rfl) (pv 12) (pv 11) (fun _ _ => rfl)) (nomark _)))))))))))))))))), ?_⟩
  obtain ⟨hlen, hbd⟩ := hp
  refine q_setS (E := eI) (i := 1) ((es_call (cellM y0 0) x0 (ea_c x0 mono_aN (es_call (y0, 0) x0 (ea_c x0 (mono_aC mono_aN) (es_var (i := 0) x0 rfl h0) (ea_c x0 mono_aN (es_int x0) (ea_n x0))) (by show (0 : Int) ≤ 0; omega)) (ea_n x0)) True.intro)) fun vm m B1 H1 s2 hm hvm => ?_
  have hvm : vm = .int m := hvm
  subst hvm
  have hm : 1 ≤ m ∧ m ≤ 12 := hm
  replace h0 := Enc.up _ s2.eb h0
  have x2 := s2.bh
  have hmp : 0 < m := by omega
  refine q_setI (i := 2) (es_opC (g := fun a b => a % b) x2 (es_call (y0, 1) x2 (ea_c x2 (mono_aC mono_aN) (es_var (i := 0) x2 rfl h0) (ea_c x2 mono_aN (es_int x2) (ea_n x2))) (by show (0 : Int) ≤ 1; omega)) (es_varI (i := 1) x2 rfl) (by show (0 : Int) < _; omega)) fun H3 ee3 => ?_
  have hro0 := Int.emod_nonneg (cellM y0 1) (show m ≠ 0 by omega)
  have hro1 := Int.emod_lt_of_pos (cellM y0 1) hmp
  generalize cellM y0 1 % m = ro at hro0 hro1
  replace s2 := s2.goH ee3
  clear x2
  have x2 := s2.bh
  refine q_setPL (j := 3) (y0, m, ro) (ea_c x2 (mono_aC (mono_aC mono_aN)) (es_var x2 rfl h0) (ea_c x2 (mono_aC mono_aN) (es_varI (i := 1) x2 rfl) (ea_c x2 mono_aN (es_varI (i := 2) x2 rfl) (ea_n x2)))) ⟨hbd, hm.1, hm.2, hro0, hro1⟩ fun tp vr lt wts rs tr n B4 H4 s4 htp hvr nlt blt hlt hN hpt => ?_
  have hN : Nets4 m rs tr := hN
  have hnet : Net m rs := ⟨hm.1, hm.2, hN.len, hN.ok⟩
  have ct : Cell H B4 H4 lt (.lst wts) := ⟨fresh_back s2.eh nlt, blt, hlt⟩
  replace s2 := s2.trans s4
  replace h0 := Enc.up _ s4.eb h0
  clear x2 nlt blt hlt s4
  have x2 := s2.bh
  refine q_setS (E := eV) (i := 4) (es_30 (E := eV) (F := eV) (G := eI) (t := (vr, V.ref lt, n)) x2 (es_var (E := e3 eV eV eI) (i := 3) x2 rfl ⟨tp, _, _, _, rfl, htp, rfl, rfl, rfl⟩)) fun v4 z4 B5 H5 s5 hz4 hv4 => ?_
  have hv4 : v4 = z4 := hv4
  rw [hz4] at hv4
  subst hv4
  replace s2 : Stp B H B4 H5 := s2.goH s5.eh
  replace ct := ct.go s5.eh
  clear x2 s5 hz4
  have x2 := s2.bh
  refine q_setS (E := eV) (i := 5) (es_31 (E := eV) (F := eV) (G := eI) (t := (v4, V.ref lt, n)) x2 (es_var (E := e3 eV eV eI) (i := 3) x2 rfl ⟨tp, _, _, _, rfl, htp, rfl, rfl, rfl⟩)) fun v5 z5 B6 H6 s6 hz5 hv5 => ?_
  have hv5 : v5 = z5 := hv5
  rw [hz5] at hv5
  have hv5 : v5 = V.ref lt := hv5
  subst hv5
  replace s2 : Stp B H B4 H6 := s2.goH s6.eh
  replace ct := ct.go s6.eh
  clear x2 s6 hz5
  have x2 := s2.bh
  generalize hvv : v4 = vr at *
  have htl := hN.tl
  refine q_setI (i := 6) (n := cellM y0 5) (es_call (y0, 5) x2 (ea_c x2 (mono_aC mono_aN) (es_var (i := 0) x2 rfl h0) (ea_c x2 mono_aN (es_int x2) (ea_n x2))) (by show (0 : Int) ≤ 5; omega)) fun H7 e7 => ?_
  generalize cellM y0 5 = cl
  replace s2 := s2.goH e7
  replace ct := ct.go e7
  clear x2
  have x2 := s2.bh
  -- one thing changed
  refine q_cut (M := fun σ' H' => ∃ vt a7 a8 a9 a10 B', σ' = [some v0, some (.int m), some (.int ro), some (.ref tp), some vr, some vt, some (.int cl), a7, a8, a9, a10, none, none, none, none, none, none] ∧ Stp B H B' H' ∧ Ex B4 B' ∧ ((¬ cellM y0 4 % 3 = 1 ∧ ∃ vts tr, vt = .ref lt ∧ Cell H B' H' lt (.lst vts) ∧ Paired (eTh.R B') vts tr ∧ tr.length = m.toNat) ∨ (cellM y0 4 % 3 = 1 ∧ ∃ tr, (eL eTh).R B' vt tr ∧ tr.length = m.toNat))) ?_ ?_
  · by_cases h3 : cellM y0 4 % 3 = 1
    · obtain ⟨B5, s5, eb5, hvt, _⟩ := cell_pub (E := eTh) ct s2 hpt
      replace h0 := Enc.up _ eb5 h0
      replace hvr := Enc.up _ eb5 hvr
      clear x2 ct hpt
      have x2 := s5.bh
      refine s_when (et_sT (es_eqI (x := cellM y0 4 % 3) (y := 1) x2 (es_opC (g := fun a b => a % b) x2 (es_call (y0, 4) x2 (ea_c x2 (mono_aC mono_aN) (es_var (i := 0) x2 rfl h0) (ea_c x2 mono_aN (es_int x2) (ea_n x2))) (by show (0 : Int) ≤ 4; omega)) (es_int x2) (by show (0 : Int) < 3; decide)) (es_int x2))) (fun hb H7 e7 => ?_) (fun hb H7 e7 => absurd h3 (of_decide_eq_false hb))
      generalize V.ref lt = vt at hvt
      replace s5 := s5.goH e7
      clear x2
      have x2 := s5.bh
      refine q_setI (i := 7) (n := cl / 9 % m) (es_opC (g := fun a b => a % b) x2 (es_opC (g := fun a b => a / b) x2 (es_varI (i := 6) x2 rfl) (es_int x2) ⟨by omega, by omega⟩) (es_varI (i := 1) x2 rfl) hmp) fun H8 e8 => ?_
      have a0 := Int.emod_nonneg (cl / 9) (show m ≠ 0 by omega)
      have a1 := Int.emod_lt_of_pos (cl / 9) hmp
      generalize cl / 9 % m = at_ at a0 a1
      replace s5 := s5.goH e8
      clear x2
      have x2 := s5.bh
      refine q_setI (i := 8) (n := cl / 9 / m) (es_opC (g := fun a b => a / b) x2 (es_opC (g := fun a b => a / b) x2 (es_varI (i := 6) x2 rfl) (es_int x2) ⟨by omega, by omega⟩) (es_varI (i := 1) x2 rfl) ⟨by omega, by omega⟩) fun H9 e9 => ?_
      generalize cl / 9 / m = mo
      replace s5 := s5.goH e9
      clear x2
      have x2 := s5.bh
      have hlp : (0 : Int) < (rs.length : Int) + 1 := by omega
      refine q_setS (E := eTh) (i := 9) (es_ixLMS (E := eTh) (σ := [some v0, some (.int m), some (.int ro), some (.ref tp), some vr, some vt, some (.int cl), some (.int at_), some (.int mo), none, none, none, none, none, none, none, none]) (S := fun ts => ts.length = 9) x2 (em_ts (n := 9) (σ := [some v0, some (.int m), some (.int ro), some (.ref tp), some vr, some vt, some (.int cl), some (.int at_), some (.int mo), none, none, none, none, none, none, none, none]) (ts_cons x2 (es_ITh (es_opC (g := fun a b => a % b) x2 (es_varI (i := 8) x2 rfl) (es_opI (g := fun a b => a + b) x2 (es_lenL x2 (es_var (E := eL eR) (i := 4) x2 rfl hvr)) (es_int x2)) hlp)) (ts_cons x2 (th_c (t := .non) x2 rfl) (ts_cons x2 (th_c (t := .no) x2 (OddV.bl true)) (ts_cons x2 (th_c (t := .no) x2 (OddV.str _)) (ts_cons x2 (th_list (em_lst (E := eI) (ea_cons' x2 (es_int x2) (ea_nil' x2)) (by show 1 ≤ 100000; decide)).s) (ts_cons x2 (th_dict x2) (ts_cons x2 (th_tup (es_tup2 (E := eI) (F := eL eI) x2 (es_int x2) (em_lst (E := eI) (ea_cons' x2 (es_int x2) (ea_nil' x2)) (by show 1 ≤ 100000; decide)).s)) (ts_cons x2 (es_ITh (es_neg (es_int x2))) (ts_cons x2 (th_c (t := .no) x2 (OddV.bl false)) (ts_nil x2)))))))))) (by decide)).s (es_opC (g := fun a b => a % b) x2 (es_varI (i := 6) x2 rfl) (es_int x2) (by show (0 : Int) < 9; decide)) (Int.emod_nonneg _ (by decide)) (fun xs hx => by rw [show xs.length = _ from hx]; exact Int.emod_lt_of_pos _ (by decide))) fun v9 t9 B6 H10 s6 _ hv9 => ?_
      replace s5 := s5.trans s6
      replace h0 := Enc.up _ s6.eb h0
      replace hvr := Enc.up _ s6.eb hvr
      replace hvt := Enc.up _ s6.eb hvt
      replace eb5 := eb5.trans s6.eb
      clear x2 s6
      have x2 := s5.bh
      have hl60 := hN.len
      refine q_setS (E := eL eI) (i := 10) ((em_lcR (F := eI) (n := (rs.length : Int)) (p := fun n => decide ((rs.getD n.toNat (0, 0, 0)).2.1 = at_)) (Tr := fun n y => y = n) x2 (es_lenL x2 (es_var (E := eL eR) (i := 4) x2 rfl hvr)) (by omega) (by omega) (fun v => rfl) (fun n B3 H3 s3 n0 n1 => ?_) (fun n B3 H3 s3 _ _ _ => es_varI (i := 16) s3.bh rfl)).s.imp (S' := fun ys => ys.length ≤ 60) fun ys hy => ?_) fun v10 hs B7 H11 s7 hhs hv10 => ?_
      · have hn : n.toNat < rs.length := by omega
        have hr := List.getElem?_eq_getElem hn
        have e : (rs.getD n.toNat (0, 0, 0)).2.1 = (rs[n.toNat]).2.1 := by rw [List.getD_eq_getElem?_getD, hr]; rfl
        rw [show decide ((rs.getD n.toNat (0, 0, 0)).2.1 = at_) = decide ((rs[n.toNat]).2.1 = at_) by rw [e]]
        have x3 := s3.bh
        exact et_sT (es_eqI x3 (es_31 (t := rs[n.toNat]) x3 (es_ixL (E := eR) (i := n) x3 (es_var (i := 4) x3 rfl (Enc.up _ s3.eb hvr)) (es_varI (i := 16) x3 rfl) n0 hr)) (es_varI (i := 7) x3 rfl))
      · have := pair_len hy
        have h8 := List.length_filter_le (fun n => decide ((rs.getD n.toNat (0, 0, 0)).2.1 = at_)) (rg (rs.length : Int))
        rw [rg_len] at h8
        omega
      replace s5 := s5.trans s7
      replace h0 := Enc.up _ s7.eb h0
      replace hvt := Enc.up _ s7.eb hvt
      replace hv9 := Enc.up _ s7.eb hv9
      replace eb5 := eb5.trans s7.eb
      clear x2 s7
      have x2 := s5.bh
      refine q_ifSetE (E := eTh) (i := 9) (T := fun _ => True) (et_and (et_sT (es_eqI x2 (es_opC (g := fun a b => a % b) x2 (es_opC (g := fun a b => a / b) x2 (es_call (y0, 4) x2 (ea_c x2 (mono_aC mono_aN) (es_var (i := 0) x2 rfl h0) (ea_c x2 mono_aN (es_int x2) (ea_n x2))) (by show (0 : Int) ≤ 4; omega)) (es_int x2) ⟨by omega, by omega⟩) (es_int x2) (by show (0 : Int) < 2; decide)) (es_int x2))) fun _ => et_sT (es_opB (g := fun a b => decide (b < a)) x2 (es_lenL x2 (es_var (E := eL eI) (i := 10) x2 rfl hv10)) (es_int x2))) x2 (fun hb => ?_) (fun hb => ⟨_, _, rfl, True.intro, hv9⟩) fun v9' t9' B8 H12 s8 _ hv9' => ?_
      · rw [Bool.and_eq_true] at hb
        have hpos := of_decide_eq_true hb.2
        exact EvS.conv (es_ixLM (E := eI) (j := mo % (hs.length : Int)) x2 (es_var (E := eL eI) (i := 10) x2 rfl hv10) (es_opC (g := fun a b => a % b) x2 (es_varI (i := 8) x2 rfl) (es_lenL x2 (es_var (E := eL eI) (i := 10) x2 rfl hv10)) hpos) (Int.emod_nonneg _ (by omega)) (Int.emod_lt_of_pos _ hpos)) fun B v z _ hz => ⟨.int z, True.intro, hz⟩
      replace s5 := s5.trans s8
      replace hvt := Enc.up _ s8.eb hvt
      replace eb5 := eb5.trans s8.eb
      clear x2 s8
      have x2 := s5.bh
      have q1 : (cutP tr none (some at_)).length = at_.toNat := by rw [cutP_to tr a0 (by omega), List.length_take]; omega
      have q3 : (cutP tr (some (at_ + 1)) none).length = tr.length - (at_ + 1).toNat := by rw [cutP_from tr (by omega) (by omega), List.length_drop]
      refine (em_cat x2 (em_cat x2 (em_slL x2 (es_var (E := eL eTh) (i := 5) x2 rfl hvt) eo_none (eo_some' (es_varI (i := 7) x2 rfl))).s (em_lst (E := eTh) (xs := [t9']) (ea_cons' x2 (es_var (E := eTh) (i := 9) x2 rfl hv9') (ea_nil' x2)) (by show 1 ≤ 100000; decide)).s ?_).s (em_slL x2 (es_var (E := eL eTh) (i := 5) x2 rfl hvt) (eo_some' (es_opI (g := fun a b => a + b) x2 (es_varI (i := 7) x2 rfl) (es_int x2))) eo_none).s ?_).s _ (Ex.refl _) _ fun v t B9 H13 s9 ht hv => ⟨v, _, _, _, _, B9, rfl, s5.trans s9, eb5.trans s9.eb, .inr ⟨h3, t, hv, ?_⟩⟩
      · rw [List.length_singleton]
        omega
      · rw [List.length_append, List.length_singleton]
        omega
      · rw [ht, List.length_append, List.length_append, List.length_singleton]
        omega
    · exact s_when (et_sT (es_eqI (x := cellM y0 4 % 3) (y := 1) x2 (es_opC (g := fun a b => a % b) x2 (es_call (y0, 4) x2 (ea_c x2 (mono_aC mono_aN) (es_var (i := 0) x2 rfl h0) (ea_c x2 mono_aN (es_int x2) (ea_n x2))) (by show (0 : Int) ≤ 4; omega)) (es_int x2) (by show (0 : Int) < 3; decide)) (es_int x2))) (fun hb H7 e7 => absurd (of_decide_eq_true hb) h3) (fun hb H7 e7 => ⟨_, _, _, _, _, B4, rfl, s2.goH e7, Ex.refl _, .inl ⟨h3, wts, tr, rfl, ct.go e7, hpt, htl⟩⟩)
  rintro σ' H' ⟨vt, a7, a8, a9, a10, B5, rfl, s2, eb5, hcase⟩
  clear ct hpt x2 htl
  replace h0 := Enc.up _ eb5 h0
  replace hvr := Enc.up _ eb5 hvr
  have htp5 := eb5 _ _ htp
  -- the last road
  refine q_cut (M := fun σ' H' => ∃ vt B' tr, σ' = [some v0, some (.int m), some (.int ro), some (.ref tp), some vr, some vt, some (.int cl), a7, a8, a9, a10, none, none, none, none, none, none] ∧ Stp B H B' H' ∧ Ex B5 B' ∧ (eL eTh).R B' vt tr ∧ tr.length = m.toNat) ?_ ?_
  · have x2 := s2.bh
    rcases hcase with ⟨h3, vts, tr, rfl, ct, hpt, htl⟩ | ⟨h3, tr, hvt, htl⟩
    · refine s_when (et_and (et_sT (es_eqI (x := cellM y0 4 % 6) (y := 2) x2 (es_opC (g := fun a b => a % b) x2 (es_call (y0, 4) x2 (ea_c x2 (mono_aC mono_aN) (es_var (i := 0) x2 rfl h0) (ea_c x2 mono_aN (es_int x2) (ea_n x2))) (by show (0 : Int) ≤ 4; omega)) (es_int x2) (by show (0 : Int) < 6; decide)) (es_int x2))) fun _ => et_sT (es_opB (g := fun a b => decide (b < a)) x2 (es_varI (i := 1) x2 rfl) (es_int x2))) (fun hb H7 e7 => ?_) (fun hb H7 e7 => ?_)
      · rw [Bool.and_eq_true] at hb
        have hm3 := of_decide_eq_true hb.2
        have hrp : (0 : Int) < (rs.length : Int) := by
          have := hN.pos hm3
          omega
        replace s2 := s2.goH e7
        replace ct := ct.go e7
        clear x2
        have x2 := s2.bh
        have j0 := Int.emod_nonneg (ro + 1) (show m ≠ 0 by omega)
        have j1 := Int.emod_lt_of_pos (ro + 1) hmp
        refine c_setLY (i := 5) (j := ((ro + 1) % m).toNat) (E := eTh) (S := fun _ => True) ct s2 ((es_ITh (es_opC (g := fun a b => a % b) x2 (es_32 (E := eV) (F := eV) (G := eI) (t := (vr, V.ref lt, n)) x2 (es_var (E := e3 eV eV eI) (i := 3) x2 rfl ⟨tp, _, _, _, rfl, htp5, rfl, rfl, rfl⟩)) (es_lenL x2 (es_var (E := eL eR) (i := 4) x2 rfl hvr)) (by exact hrp))).imp fun _ _ => True.intro) rfl (fun B1 H1 e x => ?_) (by rw [pl hpt]; omega) fun v y B9 H9 s9 eb9 c9 _ _ hy => ?_
        · rw [Int.toNat_of_nonneg j0]
          exact es_opC (g := fun a b => a % b) x (es_opI (g := fun a b => a + b) x (es_varI (i := 2) x rfl) (es_int x)) (es_varI (i := 1) x rfl) (by show (0 : Int) < _; omega)
        · obtain ⟨B10, s10, eb10, hv10, _⟩ := cell_pub (E := eTh) c9 s9 (pset hy _ (Enc.ups _ eb9 hpt))
          exact ⟨_, B10, _, rfl, s10, eb9.trans eb10, hv10, by rw [List.length_set]; omega⟩
      · obtain ⟨B10, s10, eb10, hv10, _⟩ := cell_pub (E := eTh) (ct.go e7) (s2.goH e7) hpt
        exact ⟨_, B10, tr, rfl, s10, eb10, hv10, htl⟩
    · refine s_when (b := false) (et_is (et_and (a := decide (cellM y0 4 % 6 = 2)) (b := false) (et_sT (es_eqI (x := cellM y0 4 % 6) (y := 2) x2 (es_opC (g := fun a b => a % b) x2 (es_call (y0, 4) x2 (ea_c x2 (mono_aC mono_aN) (es_var (i := 0) x2 rfl h0) (ea_c x2 mono_aN (es_int x2) (ea_n x2))) (by show (0 : Int) ≤ 4; omega)) (es_int x2) (by show (0 : Int) < 6; decide)) (es_int x2))) fun hc => ?_) (by rw [Bool.and_false])) (fun hb => by cases hb) (fun hb H7 e7 => ⟨_, B5, tr, rfl, s2.goH e7, Ex.refl _, hvt, htl⟩)
      have := of_decide_eq_true hc
      omega
  clear hcase
  rintro σ' H' ⟨vt, B7, tr, rfl, s2, eb7, hvt, htl⟩
  replace h0 := Enc.up _ eb7 h0
  replace hvr := Enc.up _ eb7 hvr
  clear htp htp5
  have x2 := s2.bh
  refine q_setI (i := 11) (n := cellM y0 6 % m) (es_opC (g := fun a b => a % b) x2 (es_call (y0, 6) x2 (ea_c x2 (mono_aC mono_aN) (es_var (i := 0) x2 rfl h0) (ea_c x2 mono_aN (es_int x2) (ea_n x2))) (by show (0 : Int) ≤ 6; omega)) (es_varI (i := 1) x2 rfl) hmp) fun H8 e8 => ?_
  have p0 := Int.emod_nonneg (cellM y0 6) (show m ≠ 0 by omega)
  have p1 := Int.emod_lt_of_pos (cellM y0 6) hmp
  generalize cellM y0 6 % m = plc at p0 p1
  replace s2 := s2.goH e8
  clear x2 h0
  have x2 := s2.bh
  refine q_setS (E := eOp (eL (eL eI))) (i := 12) (es_call (m, rs, ro, tr) x2 (ea_c x2 (mono_aC (mono_aC (mono_aC mono_aN))) (es_varI (i := 1) x2 rfl) (ea_c x2 (mono_aC (mono_aC mono_aN)) (es_var (E := eL eR) (i := 4) x2 rfl hvr) (ea_c x2 (mono_aC mono_aN) (es_varI (i := 2) x2 rfl) (ea_c x2 mono_aN (es_var (E := eL eTh) (i := 5) x2 rfl hvt) (ea_n x2))))) ⟨hnet, hro0, hro1, htl⟩) fun vd od B8 H9 s8 hod hvd => ?_
  have hod : (od = none → ¬ IsTree m rs ro tr) ∧ ∀ l, od = some l → IsTree m rs ro tr ∧ l = (rg m).map fun v => wayL m rs ro tr v := hod
  replace s2 := s2.trans s8
  replace hvr := Enc.up _ s8.eb hvr
  replace hvt := Enc.up _ s8.eb hvt
  clear x2 s8
  have x2 := s2.bh
  obtain ⟨ar, wr, rfl, har, hpr⟩ := hvr
  obtain ⟨at_, wt, rfl, hat, hpt⟩ := hvt
  have hsr : ∀ v ∈ wr, selfV v = true := self_all (fun _ _ => self_r) hpr
  have hst : ∀ v ∈ wt, selfV v = true := self_all (fun _ _ => self_th) hpt
  have hr4 : (eL eV).R B8 (.ref ar) wr := ⟨ar, wr, rfl, har, pV' wr⟩
  have ht5 : (eL eV).R B8 (.ref at_) wt := ⟨at_, wt, rfl, hat, pV' wt⟩
  refine q_setS (E := eL2 (eL eV) (eL eV)) (i := 13) (es_lst2 (x := wr) (y := wt) x2 (em_listL x2 (es_var (E := eL eV) (i := 4) x2 rfl hr4)).s (em_listL x2 (es_var (E := eL eV) (i := 5) x2 rfl ht5)).s) fun vh hd B9 H10 s9 hhd hvh => ?_
  subst hhd
  replace s2 := s2.trans s9
  replace hpr := Enc.ups _ s9.eb hpr
  replace hpt := Enc.ups _ s9.eb hpt
  replace hr4 := Enc.up _ s9.eb hr4
  replace ht5 := Enc.up _ s9.eb ht5
  replace hvd := Enc.up _ s9.eb hvd
  clear x2 har hat s9
  have x2 := s2.bh
  have hpre : Net m rs ∧ 0 ≤ ro ∧ ro < m ∧ 0 ≤ plc ∧ plc < m ∧ tr.length ≤ 100 := ⟨hnet, hro0, hro1, p0, p1, by omega⟩
  refine b_callS (m, rs, ro, tr, plc) (ea_c x2 (mono_aC (mono_aC (mono_aC (mono_aC mono_aN)))) (es_varI (i := 1) x2 rfl) (ea_c x2 (mono_aC (mono_aC (mono_aC mono_aN))) (es_vR (E := eR) (es_l20 (t := (wr, wt)) x2 (es_var (E := eL2 (eL eV) (eL eV)) (i := 13) x2 rfl hvh)) hpr) (ea_c x2 (mono_aC (mono_aC mono_aN)) (es_varI (i := 2) x2 rfl) (ea_c x2 (mono_aC mono_aN) (es_vR (E := eTh) (es_l21 (t := (wr, wt)) x2 (es_var (E := eL2 (eL eV) (eL eV)) (i := 13) x2 rfl hvh)) hpt) (ea_c x2 mono_aN (es_varI (i := 11) x2 rfl) (ea_n x2)))))) hpre (fun hT pf ws ys B10 H11 s10 nf bf hlf hys hpy => ?_) (fun hT B10 H11 s10 => ⟨true, exm_own XC_BadTree S_BadTree_BadTree, fun _ a ha => ?_, fun z => by cases z⟩)
  · have hT : IsTree m rs ro tr := hT
    have hys : ys = wayL m rs ro tr plc := hys
    cases od with
    | none => exact absurd hT (hod.1 rfl)
    | some ls =>
    have hls := (hod.2 ls rfl).2
    have cf : Cell H B10 H11 pf (.lst ws) := ⟨fresh_back s2.eh nf, bf, hlf⟩
    replace s2 := s2.trans s10
    obtain ⟨B11, s11, eb11, hvf, _⟩ := cell_pub (E := eI) cf s2 hpy
    have ebb := s10.eb.trans eb11
    replace hpr := Enc.ups _ ebb hpr
    replace hpt := Enc.ups _ ebb hpt
    replace hr4 := Enc.up _ ebb hr4
    replace ht5 := Enc.up _ ebb ht5
    replace hvd := Enc.up _ ebb hvd
    replace hvh := Enc.up _ ebb hvh
    clear x2 cf s2 s10 eb11 ebb hpy
    have x2 := s11.bh
    generalize V.ref pf = vf at hvf
    refine q_when (b := false) (et_is (et_or (et_sT (es_isNOp (E := eL (eL eI)) (o := some ls) x2 (es_var (E := eOp (eL (eL eI))) (i := 12) x2 rfl hvd))) fun _ => et_or (et_not (et_sB (es_isiL x2 (es_var (E := eL eI) (i := 14) x2 rfl hvf) k_ll))) fun _ => et_sT (es_cpNe x2 hsr hst (es_var (E := eL2 (eL eV) (eL eV)) (i := 13) x2 rfl hvh) (es_lst2 x2 (es_var (E := eL eV) (i := 4) x2 rfl hr4) (es_var (E := eL eV) (i := 5) x2 rfl ht5)))) (by simp)) (fun hb => by cases hb) (fun hb H12 e12 => ?_)
    replace s11 := s11.goH e12
    clear x2
    have x2 := s11.bh
    refine c_forE (E := eI) x2 ⟨_, ev_var (i := 14) rfl, hvf⟩ (fun i σ' H' => ∃ a, σ' = [some v0, some (.int m), some (.int ro), some (.ref tp), some (.ref ar), some (.ref at_), some (.int cl), a7, a8, a9, a10, some (.int plc), some vd, some vh, some vf, a, none] ∧ Stp B H B11 H') (fun H3 e3 => ⟨none, rfl, s11.goH e3⟩) (fun i σ' H' ⟨_, _, s⟩ => s.bh) (fun i r v σ' H' hi hv w => ?_) (fun σ' H' w => ?_)
    · obtain ⟨a, rfl, s⟩ := w
      cases hv
      exact s_when (b := false) (et_is (et_or (et_not (et_sB (es_isiI s.bh (es_varI (i := 15) (n := r) s.bh rfl) k_ii))) fun _ => et_sB (es_isiI s.bh (es_varI (i := 15) (n := r) s.bh rfl) k_ib)) rfl) (fun hb => by cases hb) fun _ H5 e5 => ⟨_, rfl, s.goH e5⟩
    · obtain ⟨a, rfl, s⟩ := w
      have x3 := s.bh
      have hpl : ls[plc.toNat]? = some (wayL m rs ro tr plc) := by
        have hi : plc.toNat < m.toNat := by omega
        rw [hls, List.getElem?_map, rg_get hi, Int.toNat_of_nonneg p0]
        rfl
      subst hys
      exact c_ret s (es_eqSame (x := wayL m rs ro tr plc) (deL deI) (by decide) x3 (es_var (E := eL eI) (i := 14) x3 rfl hvf) (es_ixL (E := eL eI) (i := plc) x3 (es_var (E := eL (eL eI)) (i := 12) x3 rfl (eOp_some hvd)) (es_varI (i := 11) x3 rfl) p0 hpl)) fun w y B2 H2 s hy hR => q w y B2 H2 s hy hR
  · have hT : ¬ IsTree m rs ro tr := hT
    cases od with
    | some ls => exact absurd (hod.2 ls rfl).1 hT
    | none =>
    replace s2 := s2.trans s10
    replace hpr := Enc.ups _ s10.eb hpr
    replace hpt := Enc.ups _ s10.eb hpt
    replace hr4 := Enc.up _ s10.eb hr4
    replace ht5 := Enc.up _ s10.eb ht5
    replace hvd := Enc.up _ s10.eb hvd
    replace hvh := Enc.up _ s10.eb hvh
    clear x2 s10
    have x2 := s2.bh
    refine q_when (b := false) (et_not (a := true) (et_sB (es_call (m, rs, ro, tr, plc) x2 (ea_c x2 (mono_aC (mono_aC (mono_aC (mono_aC mono_aN)))) (es_varI (i := 1) x2 rfl) (ea_c x2 (mono_aC (mono_aC (mono_aC mono_aN))) (es_vR (E := eR) (es_l20 (t := (wr, wt)) x2 (es_var (E := eL2 (eL eV) (eL eV)) (i := 13) x2 rfl hvh)) hpr) (ea_c x2 (mono_aC (mono_aC mono_aN)) (es_varI (i := 2) x2 rfl) (ea_c x2 (mono_aC mono_aN) (es_vR (E := eTh) (es_l21 (t := (wr, wt)) x2 (es_var (E := eL2 (eL eV) (eL eV)) (i := 13) x2 rfl hvh)) hpt) (ea_c x2 mono_aN (es_varI (i := 11) x2 rfl) (ea_n x2)))))) ⟨hnet, hro0, hro1, p0, p1, by show tr.length ≤ 100; omega, hT⟩))) (fun hb => by cases hb) (fun hb H12 e12 => ?_)
    replace s2 := s2.goH e12
    clear x2
    have x2 := s2.bh
    exact c_ret s2 (es_andV (a := true) (b := true) x2 (es_isNOp (E := eL (eL eI)) (o := none) x2 (es_var (E := eOp (eL (eL eI))) (i := 12) x2 rfl hvd)) fun _ => (es_cpEq x2 hsr hst (es_var (E := eL2 (eL eV) (eL eV)) (i := 13) x2 rfl hvh) (es_lst2 x2 (es_var (E := eL eV) (i := 4) x2 rfl hr4) (es_var (E := eL eV) (i := 5) x2 rfl ht5)))) fun w y B2 H2 s hy hR => q w y B2 H2 s hy hR
end
end RR
namespace RR
open PySem L2 Evl PyProof.Rows L2H RRH
theorem all_mk {l : PySem.W.OpenLaw} {w : World} {K : PySem.W.Frag} {h : Heap} {mg : Str → Option Value} {fa f0 f1 f2 f3 f4 f5 f6 f7 f8 f9 f10 f11 f12 f13 f14 f15 f16 f17 C_BadTree C_RoadError : Addr} (X : K.In h) (G : h.Ns mainGlobals mg) (hfa : mg "law" = some (.ref fa))
    {od0 an0 od1 an1 od2 an2 od3 an3 od4 an4 od5 an5 od6 an6 od7 an7 od8 an8 od9 an9 od10 an10 od11 an11 od12 an12 od13 an13 od14 an14 od15 an15 od16 an16 od17 an17 : Option Addr} {sl0 sl1 sl2 sl3 sl4 sl5 sl6 sl7 sl8 sl9 sl10 sl11 sl12 sl13 sl14 sl15 sl16 sl17 : Array (Option Value)} {oc0 kV0 dc0 pm0 cd0 ct0 oc1 kV1 dc1 pm1 cd1 ct1 oc2 kV2 dc2 pm2 cd2 ct2 oc3 kV3 dc3 pm3 cd3 ct3 oc4 kV4 dc4 pm4 cd4 ct4 oc5 kV5 dc5 pm5 cd5 ct5 oc6 kV6 dc6 pm6 cd6 ct6 oc7 kV7 dc7 pm7 cd7 ct7 oc8 kV8 dc8 pm8 cd8 ct8 oc9 kV9 dc9 pm9 cd9 ct9 oc10 kV10 dc10 pm10 cd10 ct10 oc11 kV11 dc11 pm11 cd11 ct11 oc12 kV12 dc12 pm12 cd12 ct12 oc13 kV13 dc13 pm13 cd13 ct13 oc14 kV14 dc14 pm14 cd14 ct14 oc15 kV15 dc15 pm15 cd15 ct15 oc16 kV16 dc16 pm16 cd16 ct16 oc17 kV17 dc17 pm17 cd17 ct17 : Value}
    (a0 : PySem.W.nsIn K mainGlobals "_law_cell_at" = some (some (.ref f0))) (l0 : K.lookup f0 = some ⟨oc0, od0, .func (PySem.W.fnOf "_law_cell_at" "_law_cell_at" (defArgs s__law_cell_at) (defBody s__law_cell_at) (defScope s__law_cell_at) .none kV0 dc0 pm0 an0 cd0 ct0), sl0⟩) (c0 : PySem.W.codeIn K cd0 "_law_cell_at" = true) (k0 : PySem.W.keepIn K (.ref f0) = true)
    (a1 : PySem.W.nsIn K mainGlobals "_law_mixed" = some (some (.ref f1))) (l1 : K.lookup f1 = some ⟨oc1, od1, .func (PySem.W.fnOf "_law_mixed" "_law_mixed" (defArgs s__law_mixed) (defBody s__law_mixed) (defScope s__law_mixed) .none kV1 dc1 pm1 an1 cd1 ct1), sl1⟩) (c1 : PySem.W.codeIn K cd1 "_law_mixed" = true) (k1 : PySem.W.keepIn K (.ref f1) = true)
    (a2 : PySem.W.nsIn K mainGlobals "is_whole" = some (some (.ref f2))) (l2 : K.lookup f2 = some ⟨oc2, od2, .func (PySem.W.fnOf "is_whole" "is_whole" (defArgs s_is_whole) (defBody s_is_whole) (defScope s_is_whole) .none kV2 dc2 pm2 an2 cd2 ct2), sl2⟩) (c2 : PySem.W.codeIn K cd2 "is_whole" = true) (k2 : PySem.W.keepIn K (.ref f2) = true)
    (a3 : PySem.W.nsIn K mainGlobals "is_place" = some (some (.ref f3))) (l3 : K.lookup f3 = some ⟨oc3, od3, .func (PySem.W.fnOf "is_place" "is_place" (defArgs s_is_place) (defBody s_is_place) (defScope s_is_place) .none kV3 dc3 pm3 an3 cd3 ct3), sl3⟩) (c3 : PySem.W.codeIn K cd3 "is_place" = true) (k3 : PySem.W.keepIn K (.ref f3) = true)
    (a4 : PySem.W.nsIn K mainGlobals "is_road" = some (some (.ref f4))) (l4 : K.lookup f4 = some ⟨oc4, od4, .func (PySem.W.fnOf "is_road" "is_road" (defArgs s_is_road) (defBody s_is_road) (defScope s_is_road) .none kV4 dc4 pm4 an4 cd4 ct4), sl4⟩) (c4 : PySem.W.codeIn K cd4 "is_road" = true) (k4 : PySem.W.keepIn K (.ref f4) = true)
    (a5 : PySem.W.nsIn K mainGlobals "checked" = some (some (.ref f5))) (l5 : K.lookup f5 = some ⟨oc5, od5, .func (PySem.W.fnOf "checked" "checked" (defArgs s_checked) (defBody s_checked) (defScope s_checked) .none kV5 dc5 pm5 an5 cd5 ct5), sl5⟩) (c5 : PySem.W.codeIn K cd5 "checked" = true) (k5 : PySem.W.keepIn K (.ref f5) = true)
    (a6 : PySem.W.nsIn K mainGlobals "need_place" = some (some (.ref f6))) (l6 : K.lookup f6 = some ⟨oc6, od6, .func (PySem.W.fnOf "need_place" "need_place" (defArgs s_need_place) (defBody s_need_place) (defScope s_need_place) .none kV6 dc6 pm6 an6 cd6 ct6), sl6⟩) (c6 : PySem.W.codeIn K cd6 "need_place" = true) (k6 : PySem.W.keepIn K (.ref f6) = true)
    (a7 : PySem.W.nsIn K mainGlobals "comes_in" = some (some (.ref f7))) (l7 : K.lookup f7 = some ⟨oc7, od7, .func (PySem.W.fnOf "comes_in" "comes_in" (defArgs s_comes_in) (defBody s_comes_in) (defScope s_comes_in) .none kV7 dc7 pm7 an7 cd7 ct7), sl7⟩) (c7 : PySem.W.codeIn K cd7 "comes_in" = true) (k7 : PySem.W.keepIn K (.ref f7) = true)
    (a8 : PySem.W.nsIn K mainGlobals "hangs_together" = some (some (.ref f8))) (l8 : K.lookup f8 = some ⟨oc8, od8, .func (PySem.W.fnOf "hangs_together" "hangs_together" (defArgs s_hangs_together) (defBody s_hangs_together) (defScope s_hangs_together) .none kV8 dc8 pm8 an8 cd8 ct8), sl8⟩) (c8 : PySem.W.codeIn K cd8 "hangs_together" = true) (k8 : PySem.W.keepIn K (.ref f8) = true)
    (a9 : PySem.W.nsIn K mainGlobals "stands" = some (some (.ref f9))) (l9 : K.lookup f9 = some ⟨oc9, od9, .func (PySem.W.fnOf "stands" "stands" (defArgs s_stands) (defBody s_stands) (defScope s_stands) .none kV9 dc9 pm9 an9 cd9 ct9), sl9⟩) (c9 : PySem.W.codeIn K cd9 "stands" = true) (k9 : PySem.W.keepIn K (.ref f9) = true)
    (a10 : PySem.W.nsIn K mainGlobals "way" = some (some (.ref f10))) (l10 : K.lookup f10 = some ⟨oc10, od10, .func (PySem.W.fnOf "way" "way" (defArgs s_way) (defBody s_way) (defScope s_way) .none kV10 dc10 pm10 an10 cd10 ct10), sl10⟩) (c10 : PySem.W.codeIn K cd10 "way" = true) (k10 : PySem.W.keepIn K (.ref f10) = true)
    (a11 : PySem.W.nsIn K mainGlobals "_law_refused" = some (some (.ref f11))) (l11 : K.lookup f11 = some ⟨oc11, od11, .func (PySem.W.fnOf "_law_refused" "_law_refused" (defArgs s__law_refused) (defBody s__law_refused) (defScope s__law_refused) .none kV11 dc11 pm11 an11 cd11 ct11), sl11⟩) (c11 : PySem.W.codeIn K cd11 "_law_refused" = true) (k11 : PySem.W.keepIn K (.ref f11) = true)
    (a12 : PySem.W.nsIn K mainGlobals "_law_road" = some (some (.ref f12))) (l12 : K.lookup f12 = some ⟨oc12, od12, .func (PySem.W.fnOf "_law_road" "_law_road" (defArgs s__law_road) (defBody s__law_road) (defScope s__law_road) .none kV12 dc12 pm12 an12 cd12 ct12), sl12⟩) (c12 : PySem.W.codeIn K cd12 "_law_road" = true) (k12 : PySem.W.keepIn K (.ref f12) = true)
    (a13 : PySem.W.nsIn K mainGlobals "_law_many" = some (some (.ref f13))) (l13 : K.lookup f13 = some ⟨oc13, od13, .func (PySem.W.fnOf "_law_many" "_law_many" (defArgs s__law_many) (defBody s__law_many) (defScope s__law_many) .none kV13 dc13 pm13 an13 cd13 ct13), sl13⟩) (c13 : PySem.W.codeIn K cd13 "_law_many" = true) (k13 : PySem.W.keepIn K (.ref f13) = true)
    (a14 : PySem.W.nsIn K mainGlobals "_law_built" = some (some (.ref f14))) (l14 : K.lookup f14 = some ⟨oc14, od14, .func (PySem.W.fnOf "_law_built" "_law_built" (defArgs s__law_built) (defBody s__law_built) (defScope s__law_built) .none kV14 dc14 pm14 an14 cd14 ct14), sl14⟩) (c14 : PySem.W.codeIn K cd14 "_law_built" = true) (k14 : PySem.W.keepIn K (.ref f14) = true)
    (a15 : PySem.W.nsIn K mainGlobals "_law_way" = some (some (.ref f15))) (l15 : K.lookup f15 = some ⟨oc15, od15, .func (PySem.W.fnOf "_law_way" "_law_way" (defArgs s__law_way) (defBody s__law_way) (defScope s__law_way) .none kV15 dc15 pm15 an15 cd15 ct15), sl15⟩) (c15 : PySem.W.codeIn K cd15 "_law_way" = true) (k15 : PySem.W.keepIn K (.ref f15) = true)
    (a16 : PySem.W.nsIn K mainGlobals "_law_ways" = some (some (.ref f16))) (l16 : K.lookup f16 = some ⟨oc16, od16, .func (PySem.W.fnOf "_law_ways" "_law_ways" (defArgs s__law_ways) (defBody s__law_ways) (defScope s__law_ways) .none kV16 dc16 pm16 an16 cd16 ct16), sl16⟩) (c16 : PySem.W.codeIn K cd16 "_law_ways" = true) (k16 : PySem.W.keepIn K (.ref f16) = true)
    (a17 : PySem.W.nsIn K mainGlobals "law" = some (some (.ref f17))) (l17 : K.lookup f17 = some ⟨oc17, od17, .func (PySem.W.fnOf "law" "law" (defArgs s_law) (defBody s_law) (defScope s_law) .none kV17 dc17 pm17 an17 cd17 ct17), sl17⟩) (c17 : PySem.W.codeIn K cd17 "law" = true) (k17 : PySem.W.keepIn K (.ref f17) = true)
    (z_ValueError : PySem.W.nsIn K mainGlobals "ValueError" = some none)
    (z_bool : PySem.W.nsIn K mainGlobals "bool" = some none)
    (z_int : PySem.W.nsIn K mainGlobals "int" = some none)
    (z_isinstance : PySem.W.nsIn K mainGlobals "isinstance" = some none)
    (z_len : PySem.W.nsIn K mainGlobals "len" = some none)
    (z_list : PySem.W.nsIn K mainGlobals "list" = some none)
    (z_range : PySem.W.nsIn K mainGlobals "range" = some none)
    (z_tuple : PySem.W.nsIn K mainGlobals "tuple" = some none)
    {t_MOST_PLACES : Tok} (y_MOST_PLACES : PySem.W.nsIn K mainGlobals "MOST_PLACES" = some (some (.int 12 t_MOST_PLACES)))
    {t_MOST_ROADS : Tok} (y_MOST_ROADS : PySem.W.nsIn K mainGlobals "MOST_ROADS" = some (some (.int 60 t_MOST_ROADS)))
    {t_DEAREST : Tok} (y_DEAREST : PySem.W.nsIn K mainGlobals "DEAREST" = some (some (.int 10000000000000000000000000000000000000000 t_DEAREST)))
    (g_BadTree : PySem.W.nsIn K mainGlobals "BadTree" = some (some (.ref C_BadTree))) (e_BadTree : PySem.W.excIn K C_BadTree [.type "ValueError", .type "Exception", .type "BaseException", .type "object"] "ValueError.__new__" = true) (p_BadTree : PySem.W.keepIn K (.ref C_BadTree) = true)
    (b_BadTree : PySem.W.subIn K (.ref C_BadTree) (.type "BaseException") = some true) (q_BadTree : PySem.W.typeIn K (.ref C_BadTree) = some (.type "type")) (d_BadTree : PySem.W.hasDictIn K C_BadTree = true)
    (g_RoadError : PySem.W.nsIn K mainGlobals "RoadError" = some (some (.ref C_RoadError))) (e_RoadError : PySem.W.excIn K C_RoadError [.type "ValueError", .type "Exception", .type "BaseException", .type "object"] "ValueError.__new__" = true) (p_RoadError : PySem.W.keepIn K (.ref C_RoadError) = true)
    (b_RoadError : PySem.W.subIn K (.ref C_RoadError) (.type "BaseException") = some true) (q_RoadError : PySem.W.typeIn K (.ref C_RoadError) = some (.type "type")) (d_RoadError : PySem.W.hasDictIn K C_RoadError = true)
    (S_BadTree_RoadError : PySem.W.subIn K (.ref C_BadTree) (.ref C_RoadError) = some true)
    (v1_BadTree : PySem.W.findIn K (.ref C_BadTree) "__getattribute__" = some (some (.builtin "BaseException.__getattribute__"))) (v2_BadTree : PySem.W.findIn K (.ref C_BadTree) "__getattr__" = some none) (v3_BadTree : PySem.W.findIn K (.ref C_BadTree) "__class__" = some (some (.builtin "object.__class__")))
    (v4_BadTree : PySem.W.specialIn K (.builtin "object.__class__") "__get__" = some (some (.builtin "getset_descriptor.__get__"))) (v5_BadTree : PySem.W.takesIn K (.builtin "object.__class__") = some true) (v6_BadTree : PySem.W.mroIn K C_BadTree (.type "object") = some true) (v7_BadTree : PySem.W.kitOne K (.ref C_BadTree) (.type "ValueError") = some true)
    (S_BadTree_BadTree : PySem.W.subIn K (.ref C_BadTree) (.ref C_BadTree) = some true)
    : ∃ fd : FuncData, (∀ (s : Shared) (v : Value), BindsTo s fd ⟨[v], []⟩ [("_law_script", v)]) ∧ ∀ base : Heap, K.In base → base.Ns mainGlobals mg → FnOk l.prog w K mg base CX0 7 fa fd ["_law_script"] (spLaw K) := by
  have e := hfa.symm.trans (PySem.W.mg_of X G a17)
  cases e
  have T : Txt K mg := ⟨PySem.W.mg_none_of X G z_ValueError, PySem.W.mg_none_of X G z_bool, PySem.W.mg_none_of X G z_int, PySem.W.mg_none_of X G z_isinstance, PySem.W.mg_none_of X G z_len, PySem.W.mg_none_of X G z_list, PySem.W.mg_none_of X G z_range, PySem.W.mg_none_of X G z_tuple, ⟨_, PySem.W.mg_of X G y_MOST_PLACES⟩, ⟨_, PySem.W.mg_of X G y_MOST_ROADS⟩, ⟨_, PySem.W.mg_of X G y_DEAREST⟩⟩
  have XC_BadTree : ExcT K mg "BadTree" C_BadTree := ⟨PySem.W.mg_of X G g_BadTree, e_BadTree, p_BadTree, b_BadTree, q_BadTree, d_BadTree⟩
  have XC_RoadError : ExcT K mg "RoadError" C_RoadError := ⟨PySem.W.mg_of X G g_RoadError, e_RoadError, p_RoadError, b_RoadError, q_RoadError, d_RoadError⟩
  have XV_BadTree : ExcV K C_BadTree := ⟨⟨v1_BadTree, v2_BadTree, b_BadTree, d_BadTree, v3_BadTree, v4_BadTree, v5_BadTree, v6_BadTree⟩, v7_BadTree⟩
  refine ⟨PySem.W.fnOf "law" "law" (defArgs s_law) (defBody s_law) (defScope s_law) .none kV17 dc17 pm17 an17 cd17 ct17, fun s v => .of_eq rfl, fun base _ _ => ?_⟩
  have G__law_cell_at := d__law_cell_at (P := l.prog) (w := w) (base := base) ⟨f0, _, fun_mk (st := s__law_cell_at) l0 c0 k0, PySem.W.mg_of X G a0⟩ T 
  have G__law_mixed := d__law_mixed (P := l.prog) (w := w) (base := base) ⟨f1, _, fun_mk (st := s__law_mixed) l1 c1 k1, PySem.W.mg_of X G a1⟩ T 
  have G_is_whole := d_is_whole (P := l.prog) (w := w) (base := base) ⟨f2, _, fun_mk (st := s_is_whole) l2 c2 k2, PySem.W.mg_of X G a2⟩ T 
  have G_is_place := d_is_place (P := l.prog) (w := w) (base := base) ⟨f3, _, fun_mk (st := s_is_place) l3 c3 k3, PySem.W.mg_of X G a3⟩ T G_is_whole
  have G_is_road := d_is_road (P := l.prog) (w := w) (base := base) ⟨f4, _, fun_mk (st := s_is_road) l4 c4 k4, PySem.W.mg_of X G a4⟩ T G_is_whole G_is_place
  have G_checked := d_checked (P := l.prog) (w := w) (base := base) ⟨f5, _, fun_mk (st := s_checked) l5 c5 k5, PySem.W.mg_of X G a5⟩ T G_is_whole G_is_road
  have G_need_place := d_need_place (P := l.prog) (w := w) (base := base) ⟨f6, _, fun_mk (st := s_need_place) l6 c6 k6, PySem.W.mg_of X G a6⟩ T G_is_place
  have G_is_wholeT := d_is_wholeT (P := l.prog) (w := w) (base := base) ⟨f2, _, fun_mk (st := s_is_whole) l2 c2 k2, PySem.W.mg_of X G a2⟩ T 
  have G_comes_in := d_comes_in (P := l.prog) (w := w) (base := base) ⟨f7, _, fun_mk (st := s_comes_in) l7 c7 k7, PySem.W.mg_of X G a7⟩ T G_is_wholeT
  have G_hangs_together := d_hangs_together (P := l.prog) (w := w) (base := base) ⟨f8, _, fun_mk (st := s_hangs_together) l8 c8 k8, PySem.W.mg_of X G a8⟩ T 
  have G_stands := d_stands (P := l.prog) (w := w) (base := base) ⟨f9, _, fun_mk (st := s_stands) l9 c9 k9, PySem.W.mg_of X G a9⟩ T G_comes_in G_hangs_together
  have G_is_wholeH := d_is_wholeH (P := l.prog) (w := w) (base := base) ⟨f2, _, fun_mk (st := s_is_whole) l2 c2 k2, PySem.W.mg_of X G a2⟩ T 
  have G_is_placeH := d_is_placeH (P := l.prog) (w := w) (base := base) ⟨f3, _, fun_mk (st := s_is_place) l3 c3 k3, PySem.W.mg_of X G a3⟩ T G_is_wholeH
  have G_is_roadH := d_is_roadH (P := l.prog) (w := w) (base := base) ⟨f4, _, fun_mk (st := s_is_road) l4 c4 k4, PySem.W.mg_of X G a4⟩ T G_is_wholeH G_is_placeH
  have G_checkedH := d_checkedH (P := l.prog) (w := w) (base := base) ⟨f5, _, fun_mk (st := s_checked) l5 c5 k5, PySem.W.mg_of X G a5⟩ T G_is_wholeH G_is_roadH
  have G_need_placeH := d_need_placeH (P := l.prog) (w := w) (base := base) ⟨f6, _, fun_mk (st := s_need_place) l6 c6 k6, PySem.W.mg_of X G a6⟩ T G_is_placeH
  have G_is_wholeTH := d_is_wholeTH (P := l.prog) (w := w) (base := base) ⟨f2, _, fun_mk (st := s_is_whole) l2 c2 k2, PySem.W.mg_of X G a2⟩ T 
  have G_comes_inH := d_comes_inH (P := l.prog) (w := w) (base := base) ⟨f7, _, fun_mk (st := s_comes_in) l7 c7 k7, PySem.W.mg_of X G a7⟩ T G_is_wholeTH
  have G_hangs_togetherH := d_hangs_togetherH (P := l.prog) (w := w) (base := base) ⟨f8, _, fun_mk (st := s_hangs_together) l8 c8 k8, PySem.W.mg_of X G a8⟩ T 
  have G_standsH := d_standsH (P := l.prog) (w := w) (base := base) ⟨f9, _, fun_mk (st := s_stands) l9 c9 k9, PySem.W.mg_of X G a9⟩ T G_comes_inH G_hangs_togetherH
  have G_wayRH := d_wayRH (P := l.prog) (w := w) (base := base) ⟨f10, _, fun_mk (st := s_way) l10 c10 k10, PySem.W.mg_of X G a10⟩ T XC_BadTree G_checkedH G_need_placeH G_standsH
  have G__law_refusedH := d__law_refusedH (P := l.prog) (w := w) (base := base) ⟨f11, _, fun_mk (st := s__law_refused) l11 c11 k11, PySem.W.mg_of X G a11⟩ T XC_RoadError S_BadTree_RoadError XV_BadTree G_wayRH
  have G_wayBRN := d_wayBRN (P := l.prog) (w := w) (base := base) ⟨f10, _, fun_mk (st := s_way) l10 c10 k10, PySem.W.mg_of X G a10⟩ T XC_BadTree G_checked G_need_place G_stands
  have G__law_road := d__law_road (P := l.prog) (w := w) (base := base) ⟨f12, _, fun_mk (st := s__law_road) l12 c12 k12, PySem.W.mg_of X G a12⟩ T 
  have G__law_many := d__law_many (P := l.prog) (w := w) (base := base) ⟨f13, _, fun_mk (st := s__law_many) l13 c13 k13, PySem.W.mg_of X G a13⟩ T 
  have G__law_built := d__law_built (P := l.prog) (w := w) (base := base) ⟨f14, _, fun_mk (st := s__law_built) l14 c14 k14, PySem.W.mg_of X G a14⟩ T G__law_cell_at G__law_mixed G__law_road
  have G__law_way := d__law_way (P := l.prog) (w := w) (base := base) ⟨f15, _, fun_mk (st := s__law_way) l15 c15 k15, PySem.W.mg_of X G a15⟩ T 
  have G__law_ways := d__law_ways (P := l.prog) (w := w) (base := base) ⟨f16, _, fun_mk (st := s__law_ways) l16 c16 k16, PySem.W.mg_of X G a16⟩ T G__law_way
  exact d_law (P := l.prog) (w := w) (base := base) (fun_mk (st := s_law) l17 c17 k17) T XC_BadTree S_BadTree_BadTree G__law_cell_at G__law_many G__law_built G__law_ways G_wayBRN G__law_refusedH
theorem walk {l : PySem.W.OpenLaw} {q : Program} {loose : List Str} {XP : (Str → Option Value) → Heap → Prop} {YP : World → Heap → Prop} {d : DefRec} {K : Params → PySem.W.Frag} (hn : l.most = some 63) (hdf : d.params.defaults = [])
    (hY : ∀ (w : World) (h : Heap), YP w h → (K w.params).In h)
    (F : ∀ (w : World) (mg : Str → Option Value) (fa : Addr) (h : Heap), (K w.params).In h → h.Ns mainGlobals mg → mg d.name = some (.ref fa) →
      ∃ fd : FuncData, (∀ (s : Shared) (u : Value), BindsTo s fd ⟨[u], []⟩ [("_law_script", u)]) ∧ ∀ base : Heap, (K w.params).In base → base.Ns mainGlobals mg → FnOk l.prog w (K w.params) mg base CX0 7 fa fd ["_law_script"] (spLaw (K w.params))) :
    PySem.W.WalkO q loose XP YP l.row.toRowW d [] (fun f vs => PySem.call f vs) :=
  L2.walk_ofB (n := 63) (k := 7) (x := "_law_script") (CX := fun _ => CX0) (sp := fun w => spLaw (K w.params)) hn (by decide) hdf ⟨rfl, by decide, by decide⟩ hY F (fun _ H a ns hl hb _ hS =>
    ⟨ns, H, Ex.refl H, ⟨_, ns, [], rfl, rfl, ⟨a, rfl, hS⟩, rfl⟩, ⟨hl, fun z hz => Bd.bits (hb z hz)⟩, fun w y B2 H2 _ hy hR => by cases hy; exact hR⟩) fun _ _ _ _ _ z => z
end RR
open PySem PySem.W PyProof.Rows in
set_option maxRecDepth 100000 in
set_option maxHeartbeats 0 in
theorem PySem.Challenge.cw_rootroads_k05_ways_in_a_tree_holds : PySem.Challenge.rw_rootroads_k05_ways_in_a_tree.Holds := by
  w_on; o_law; k_head; (case hw => w_witness2)
  k_fill
  refine RR.walk (l := PySem.Challenge.rw_rootroads_k05_ways_in_a_tree) rfl rfl (fun w h Y => PySem.W.kIn_of Y) ?F
  case F =>
    intro w mg fa h KX G hmg
    refine' RR.all_mk KX G hmg ?a0 ?l0 ?c0 ?k0 ?a1 ?l1 ?c1 ?k1 ?a2 ?l2 ?c2 ?k2 ?a3 ?l3 ?c3 ?k3 ?a4 ?l4 ?c4 ?k4 ?a5 ?l5 ?c5 ?k5 ?a6 ?l6 ?c6 ?k6 ?a7 ?l7 ?c7 ?k7 ?a8 ?l8 ?c8 ?k8 ?a9 ?l9 ?c9 ?k9 ?a10 ?l10 ?c10 ?k10 ?a11 ?l11 ?c11 ?k11 ?a12 ?l12 ?c12 ?k12 ?a13 ?l13 ?c13 ?k13 ?a14 ?l14 ?c14 ?k14 ?a15 ?l15 ?c15 ?k15 ?a16 ?l16 ?c16 ?k16 ?a17 ?l17 ?c17 ?k17 ?z_ValueError ?z_bool ?z_int ?z_isinstance ?z_len ?z_list ?z_range ?z_tuple ?y_MOST_PLACES ?y_MOST_ROADS ?y_DEAREST ?g_BadTree ?e_BadTree ?p_BadTree ?b_BadTree ?q_BadTree ?d_BadTree ?g_RoadError ?e_RoadError ?p_RoadError ?b_RoadError ?q_RoadError ?d_RoadError ?S_BadTree_RoadError ?v1_BadTree ?v2_BadTree ?v3_BadTree ?v4_BadTree ?v5_BadTree ?v6_BadTree ?v7_BadTree ?S_BadTree_BadTree
    (case a0 => first | k_is | rfl)
    (case l0 => first | k_is | rfl)
    (case c0 => first | k_is | rfl)
    (case k0 => first | k_is | rfl)
    (case a1 => first | k_is | rfl)
    (case l1 => first | k_is | rfl)
    (case c1 => first | k_is | rfl)
    (case k1 => first | k_is | rfl)
    (case a2 => first | k_is | rfl)
    (case l2 => first | k_is | rfl)
    (case c2 => first | k_is | rfl)
    (case k2 => first | k_is | rfl)
    (case a3 => first | k_is | rfl)
    (case l3 => first | k_is | rfl)
    (case c3 => first | k_is | rfl)
    (case k3 => first | k_is | rfl)
    (case a4 => first | k_is | rfl)
    (case l4 => first | k_is | rfl)
    (case c4 => first | k_is | rfl)
    (case k4 => first | k_is | rfl)
    (case a5 => first | k_is | rfl)
    (case l5 => first | k_is | rfl)
    (case c5 => first | k_is | rfl)
    (case k5 => first | k_is | rfl)
    (case a6 => first | k_is | rfl)
    (case l6 => first | k_is | rfl)
    (case c6 => first | k_is | rfl)
    (case k6 => first | k_is | rfl)
    (case a7 => first | k_is | rfl)
    (case l7 => first | k_is | rfl)
    (case c7 => first | k_is | rfl)
    (case k7 => first | k_is | rfl)
    (case a8 => first | k_is | rfl)
    (case l8 => first | k_is | rfl)
    (case c8 => first | k_is | rfl)
    (case k8 => first | k_is | rfl)
    (case a9 => first | k_is | rfl)
    (case l9 => first | k_is | rfl)
    (case c9 => first | k_is | rfl)
    (case k9 => first | k_is | rfl)
    (case a10 => first | k_is | rfl)
    (case l10 => first | k_is | rfl)
    (case c10 => first | k_is | rfl)
    (case k10 => first | k_is | rfl)
    (case a11 => first | k_is | rfl)
    (case l11 => first | k_is | rfl)
    (case c11 => first | k_is | rfl)
    (case k11 => first | k_is | rfl)
    (case a12 => first | k_is | rfl)
    (case l12 => first | k_is | rfl)
    (case c12 => first | k_is | rfl)
    (case k12 => first | k_is | rfl)
    (case a13 => first | k_is | rfl)
    (case l13 => first | k_is | rfl)
    (case c13 => first | k_is | rfl)
    (case k13 => first | k_is | rfl)
    (case a14 => first | k_is | rfl)
    (case l14 => first | k_is | rfl)
    (case c14 => first | k_is | rfl)
    (case k14 => first | k_is | rfl)
    (case a15 => first | k_is | rfl)
    (case l15 => first | k_is | rfl)
    (case c15 => first | k_is | rfl)
    (case k15 => first | k_is | rfl)
    (case a16 => first | k_is | rfl)
    (case l16 => first | k_is | rfl)
    (case c16 => first | k_is | rfl)
    (case k16 => first | k_is | rfl)
    (case a17 => first | k_is | rfl)
    (case l17 => first | k_is | rfl)
    (case c17 => first | k_is | rfl)
    (case k17 => first | k_is | rfl)
    (case z_ValueError => first | k_is | rfl)
    (case z_bool => first | k_is | rfl)
    (case z_int => first | k_is | rfl)
    (case z_isinstance => first | k_is | rfl)
    (case z_len => first | k_is | rfl)
    (case z_list => first | k_is | rfl)
    (case z_range => first | k_is | rfl)
    (case z_tuple => first | k_is | rfl)
    (case y_MOST_PLACES => first | k_is | rfl)
    (case y_MOST_ROADS => first | k_is | rfl)
    (case y_DEAREST => first | k_is | rfl)
    (case g_BadTree => first | k_is | rfl)
    (case e_BadTree => k_exc)
    (case p_BadTree => first | k_is | rfl)
    (case b_BadTree => first | k_is | rfl)
    (case q_BadTree => first | k_is | rfl)
    (case d_BadTree => first | k_is | rfl)
    (case g_RoadError => first | k_is | rfl)
    (case e_RoadError => k_exc)
    (case p_RoadError => first | k_is | rfl)
    (case b_RoadError => first | k_is | rfl)
    (case q_RoadError => first | k_is | rfl)
    (case d_RoadError => first | k_is | rfl)
    (case S_BadTree_RoadError => first | k_is | rfl)
    (case v1_BadTree => first | k_is | rfl)
    (case v2_BadTree => first | k_is | rfl)
    (case v3_BadTree => first | k_is | rfl)
    (case v4_BadTree => first | k_is | rfl)
    (case v5_BadTree => first | k_is | rfl)
    (case v6_BadTree => first | k_is | rfl)
    (case v7_BadTree => first | k_is | rfl)
    (case S_BadTree_BadTree => first | k_is | rfl)
#print axioms PySem.Challenge.cw_rootroads_k05_ways_in_a_tree_holds
