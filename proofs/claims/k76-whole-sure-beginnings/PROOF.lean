import PyProof.Rows.All
import Wide.All
import OpenK.AllK
import Wide.FinOn
import HandS.ForMost
import HandS.ClsMeth
import HandS.Property
import HandS.Style
import HandS.SetFor
import PyProof.ListStr
import PyProof.P3Eq
import HandS.Zip0
import HandS.RevTup
import KE.KDictZip
import KE.KDictItemsList
import HandS.Set
import HandS.Strs
import HandS.Conv
import HandS.More
import KE.SortData
import HandS.Star
import HandS.ListItems
import PyProof.DictValues
import KE.KDictSum
import HandS.DictTup
import HandS.IsInst
import HandS.Flow
import HandS.TupAny
import HandS.Defaults
import HandS.Codes
import HandS.Walk
import HandS.DictComp
import HandS.NoneIn
import HandS.Zip
import HandS.TupMul
import PySem.Challenge.RW_countedsteps_k76_whole_sure_beginnings
set_option linter.all false
/-! Journeys as lists of steps: degrees, hanging together, the journey that makes all steps (no program in sight). -/
namespace K76
section
variable {α : Type} [DecidableEq α]

/-- the steps of the journey s :: r -/
def stp : α → List α → List (α × α)
  | _, [] => []
  | s, x :: r => (s, x) :: stp x r
/-- its end -/
def lst : α → List α → α
  | s, [] => s
  | _, x :: r => lst x r
def outs (E : List (α × α)) (v : α) : Nat := E.countP fun e => decide (e.1 = v)
def inns (E : List (α × α)) (v : α) : Nat := E.countP fun e => decide (e.2 = v)
def one (p : Prop) [Decidable p] : Nat := if p then 1 else 0

theorem outs_cons (e : α × α) (E : List (α × α)) (v : α) : outs (e :: E) v = outs E v + one (e.1 = v) := by
  unfold outs one
  rw [List.countP_cons]
  by_cases h : e.1 = v <;> simp [h]
theorem inns_cons (e : α × α) (E : List (α × α)) (v : α) : inns (e :: E) v = inns E v + one (e.2 = v) := by
  unfold inns one
  rw [List.countP_cons]
  by_cases h : e.2 = v <;> simp [h]
theorem outs_append (E F : List (α × α)) (v : α) : outs (E ++ F) v = outs E v + outs F v := List.countP_append
theorem inns_append (E F : List (α × α)) (v : α) : inns (E ++ F) v = inns E v + inns F v := List.countP_append
theorem outs_perm {E F : List (α × α)} (h : E.Perm F) (v : α) : outs E v = outs F v := h.countP_eq _
theorem inns_perm {E F : List (α × α)} (h : E.Perm F) (v : α) : inns E v = inns F v := h.countP_eq _
theorem one_comm (a b : α) : one (a = b) = one (b = a) := by
  unfold one
  by_cases h : a = b
  · rw [if_pos h, if_pos h.symm]
  · rw [if_neg h, if_neg fun z => h z.symm]
theorem one_self (a : α) : one (a = a) = 1 := if_pos rfl
theorem one_ne {a b : α} (h : ¬ a = b) : one (a = b) = 0 := if_neg h
theorem one_le (p : Prop) [Decidable p] : one p ≤ 1 := by unfold one; split <;> omega

/-- the degrees are those of a journey from s to t -/
def Bal (s t : α) (E : List (α × α)) : Prop := ∀ v, outs E v + one (t = v) = inns E v + one (s = v)
theorem Bal.perm {s t : α} {E F : List (α × α)} (b : Bal s t E) (h : E.Perm F) : Bal s t F := fun v => by
  rw [← outs_perm h, ← inns_perm h]; exact b v
theorem bal_cons {s p t : α} {E : List (α × α)} : Bal s t ((s, p) :: E) ↔ Bal p t E := by
  constructor
  · intro h v
    have e := h v
    rw [outs_cons, inns_cons] at e
    simp only at e
    omega
  · intro h v
    have e := h v
    rw [outs_cons, inns_cons]
    simp only
    omega
theorem bal_stp : ∀ (r : List α) (s : α), Bal s (lst s r) (stp s r)
  | [], s => fun v => rfl
  | x :: r, s => bal_cons.mpr (bal_stp r x)
theorem bal_rest {s t : α} {F R : List (α × α)} (h : Bal s t (F ++ R)) (g : Bal s t F) (u : α) : Bal u u R := fun v => by
  have e := h v
  have e2 := g v
  rw [outs_append, inns_append] at e
  omega

/-! ### lists of steps -/
theorem stp_append : ∀ (r q : List α) (s : α), stp s (r ++ q) = stp s r ++ stp (lst s r) q
  | [], q, s => rfl
  | x :: r, q, s => by
    show (s, x) :: stp x (r ++ q) = (s, x) :: (stp x r ++ stp (lst x r) q)
    rw [stp_append r q x]
theorem lst_append : ∀ (r q : List α) (s : α), lst s (r ++ q) = lst (lst s r) q
  | [], q, s => rfl
  | x :: r, q, s => lst_append r q x
theorem stp_length : ∀ (r : List α) (s : α), (stp s r).length = r.length
  | [], s => rfl
  | x :: r, s => by
    show (stp x r).length + 1 = r.length + 1
    rw [stp_length r x]
theorem stp_inj : ∀ {r q : List α} {s : α}, stp s r = stp s q → r = q
  | [], [], _, _ => rfl
  | [], _ :: _, _, h => nomatch h
  | _ :: _, [], _, h => nomatch h
  | x :: r, y :: q, s, h => by
    have e1 : (s, x) = (s, y) := (List.cons.inj h).1
    have e2 := (List.cons.inj h).2
    have e3 : x = y := (Prod.mk.inj e1).2
    subst e3
    rw [stp_inj e2]
/-- the steps read off as pairs of neighbours -/
theorem stp_zip : ∀ (r : List α) (s : α), (s :: r).zip r = stp s r
  | [], s => rfl
  | x :: r, s => by
    show (s, x) :: (x :: r).zip r = (s, x) :: stp x r
    rw [stp_zip r x]
theorem lst_getLast : ∀ (r : List α) (s : α), (s :: r).getLast? = some (lst s r)
  | [], s => rfl
  | x :: r, s => by
    rw [List.getLast?_cons_cons]
    exact lst_getLast r x
theorem mem_stp {e : α × α} : ∀ {r : List α} {s : α}, e ∈ stp s r → e.1 ∈ s :: r ∧ e.2 ∈ s :: r
  | [], s, h => nomatch h
  | x :: r, s, h => by
    rcases List.mem_cons.mp h with h | h
    · subst h
      exact ⟨List.mem_cons_self, List.mem_cons_of_mem _ List.mem_cons_self⟩
    · obtain ⟨a, b⟩ := mem_stp h
      exact ⟨List.mem_cons_of_mem _ a, List.mem_cons_of_mem _ b⟩

/-! ### hanging together -/
inductive Reach (E : List (α × α)) (u : α) : α → Prop
  | refl : Reach E u u
  | fwd {x y : α} : Reach E u x → (x, y) ∈ E → Reach E u y
  | bwd {x y : α} : Reach E u x → (y, x) ∈ E → Reach E u y
theorem Reach.trans {E : List (α × α)} {u v w : α} (a : Reach E u v) (b : Reach E v w) : Reach E u w := by
  induction b with
  | refl => exact a
  | fwd _ h ih => exact .fwd ih h
  | bwd _ h ih => exact .bwd ih h
theorem Reach.one {E : List (α × α)} {u v : α} (h : (u, v) ∈ E) : Reach E u v := .fwd .refl h
theorem Reach.eno {E : List (α × α)} {u v : α} (h : (u, v) ∈ E) : Reach E v u := .bwd .refl h
theorem Reach.symm {E : List (α × α)} {u v : α} (a : Reach E u v) : Reach E v u := by
  induction a with
  | refl => exact .refl
  | fwd _ h ih => exact (Reach.eno h).trans ih
  | bwd _ h ih => exact (Reach.one h).trans ih
theorem Reach.mono {E F : List (α × α)} {u v : α} (a : Reach E u v) (h : ∀ e ∈ E, e ∈ F) : Reach F u v := by
  induction a with
  | refl => exact .refl
  | fwd _ e ih => exact .fwd ih (h _ e)
  | bwd _ e ih => exact .bwd ih (h _ e)
theorem Reach.perm {E F : List (α × α)} {u v : α} (a : Reach E u v) (h : E.Perm F) : Reach F u v := a.mono fun _ z => h.mem_iff.mp z
/-- what is kept along all steps is kept to the end -/
theorem Reach.kept {E : List (α × α)} {u v : α} (a : Reach E u v) {P : α → Prop} (h : ∀ x y, (x, y) ∈ E → (P x ↔ P y)) (h0 : P u) : P v := by
  induction a with
  | refl => exact h0
  | fwd _ e ih => exact (h _ _ e).mp ih
  | bwd _ e ih => exact (h _ _ e).mpr ih
def Conn (s : α) (E : List (α × α)) : Prop := ∀ e ∈ E, Reach E s e.1
theorem Conn.perm {s : α} {E F : List (α × α)} (c : Conn s E) (h : E.Perm F) : Conn s F := fun e he => (c e (h.mem_iff.mpr he)).perm h
theorem reach_stp : ∀ (r : List α) (s : α) {v : α}, v ∈ s :: r → Reach (stp s r) s v
  | [], s, v, h => by
    have e : v = s := by simpa using h
    subst e; exact .refl
  | x :: r, s, v, h => by
    rcases List.mem_cons.mp h with h | h
    · subst h; exact .refl
    · exact (Reach.one (show (s, x) ∈ stp s (x :: r) from List.mem_cons_self)).trans ((reach_stp r x h).mono fun e he => List.mem_cons_of_mem _ he)
theorem conn_stp (r : List α) (s : α) : Conn s (stp s r) := fun e he => reach_stp r s (mem_stp he).1

/-! ### going on while one can -/
theorem outs_pos {E : List (α × α)} {v : α} (h : 0 < outs E v) : ∃ p, (v, p) ∈ E := by
  obtain ⟨e, he, h2⟩ := List.countP_pos_iff.mp h
  have h3 : e.1 = v := of_decide_eq_true h2
  exact ⟨e.2, by rw [← h3]; exact he⟩
theorem outs_mem {E : List (α × α)} {v p : α} (h : (v, p) ∈ E) : 0 < outs E v := List.countP_pos_iff.mpr ⟨_, h, decide_eq_true rfl⟩
theorem inns_mem {E : List (α × α)} {v p : α} (h : (p, v) ∈ E) : 0 < inns E v := List.countP_pos_iff.mpr ⟨_, h, decide_eq_true rfl⟩
theorem greedy : ∀ (n : Nat) (E : List (α × α)) (s t : α), E.length ≤ n → Bal s t E → ∃ r R, lst s r = t ∧ (stp s r ++ R).Perm E
  | n, E, s, t, hn, b => by
    by_cases h : 0 < outs E s
    · obtain ⟨p, hp⟩ := outs_pos h
      have pe := List.perm_cons_erase hp
      have hl := List.length_erase_of_mem hp
      have h0 : 0 < E.length := List.length_pos_of_mem hp
      cases n with
      | zero => omega
      | succ n =>
        obtain ⟨r, R, e1, e2⟩ := greedy n (E.erase (s, p)) p t (by omega) (bal_cons.mp (b.perm pe))
        exact ⟨p :: r, R, e1, (List.Perm.cons _ e2).trans pe.symm⟩
    · have e := b s
      rw [one_self] at e
      have h1 : one (t = s) ≠ 0 := by omega
      have h2 : t = s := by
        by_cases q : t = s
        · exact q
        · exact absurd (one_ne q) h1
      exact ⟨[], E, h2.symm, List.Perm.refl _⟩

/-- a round trip put in at a visit -/
theorem splice {r : List α} {s v : α} (hv : v ∈ s :: r) (q : List α) (hq : lst v q = v) : ∃ r', lst s r' = lst s r ∧ (stp s r').Perm (stp s r ++ stp v q) := by
  induction r generalizing s with
  | nil =>
    have e : v = s := by simpa using hv
    subst e
    exact ⟨q, hq, by show (stp v q).Perm ([] ++ stp v q); exact List.Perm.refl _⟩
  | cons x r ih =>
    by_cases h : v = s
    · subst h
      refine ⟨q ++ x :: r, ?_, ?_⟩
      · rw [lst_append, hq]
      · rw [stp_append, hq]
        exact List.perm_append_comm
    · have hv' : v ∈ x :: r := by
        rcases List.mem_cons.mp hv with z | z
        · exact absurd z h
        · exact z
      obtain ⟨r', e1, e2⟩ := ih hv'
      exact ⟨x :: r', e1, List.Perm.cons _ e2⟩

theorem euler_go : ∀ (n : Nat) (E R : List (α × α)) (s t : α) (r : List α), R.length ≤ n → Bal s t E → Conn s E → lst s r = t → (stp s r ++ R).Perm E → ∃ r', lst s r' = t ∧ (stp s r').Perm E
  | n, E, R, s, t, r, hn, b, c, hl, hp => by
    by_cases h : R = []
    · subst h
      exact ⟨r, hl, by simpa using hp⟩
    · -- somewhere on the way a step is left
      have bR : ∀ u, Bal u u R := fun u => bal_rest (b.perm hp.symm) (by rw [← hl]; exact bal_stp r s) u
      have inE : ∀ e, e ∈ E → e ∈ stp s r ∨ e ∈ R := fun e he => List.mem_append.mp (hp.mem_iff.mpr he)
      have key : ∀ x, Reach E s x → x ∈ s :: r ∨ ∃ v ∈ s :: r, ∃ p, (v, p) ∈ R := by
        intro x hx
        induction hx with
        | refl => exact .inl List.mem_cons_self
        | fwd _ he ih =>
          rcases ih with ih | ih
          · rcases inE _ he with z | z
            · exact .inl (mem_stp z).2
            · exact .inr ⟨_, ih, _, z⟩
          · exact .inr ih
        | @bwd a _ _ he ih =>
          rcases ih with ih | ih
          · rcases inE _ he with z | z
            · exact .inl (mem_stp z).1
            · have h1 := inns_mem z
              have h3 := Nat.add_right_cancel (bR s a)
              obtain ⟨p, hp'⟩ := outs_pos (h3 ▸ h1)
              exact .inr ⟨_, ih, p, hp'⟩
          · exact .inr ih
      have : ∃ v ∈ s :: r, ∃ p, (v, p) ∈ R := by
        obtain ⟨e, he⟩ : ∃ e, e ∈ R := by
          cases R with
          | nil => exact absurd rfl h
          | cons e R => exact ⟨e, List.mem_cons_self⟩
        have heE : e ∈ E := hp.mem_iff.mp (List.mem_append_right _ he)
        rcases key e.1 (c e heE) with z | z
        · exact ⟨e.1, z, e.2, he⟩
        · exact z
      obtain ⟨v, hv, p, hvp⟩ := this
      have pe := List.perm_cons_erase hvp
      have hlen := List.length_erase_of_mem hvp
      have h0 : 0 < R.length := List.length_pos_of_mem hvp
      obtain ⟨q, R', e1, e2⟩ := greedy _ (R.erase (v, p)) p v (Nat.le_refl _) (bal_cons.mp ((bR v).perm pe))
      obtain ⟨r', e3, e4⟩ := splice hv (p :: q) e1
      have e5 : (stp v (p :: q) ++ R').Perm R := (List.Perm.cons _ e2).trans pe.symm
      have hR' : R'.length + 1 ≤ R.length := by
        have := e5.length_eq
        rw [List.length_append, stp_length, List.length_cons] at this
        omega
      cases n with
      | zero => omega
      | succ n =>
        refine euler_go n E R' s t r' (by omega) b c (e3.trans hl) ?_
        refine (List.Perm.append_right R' e4).trans ?_
        rw [List.append_assoc]
        exact (List.Perm.append_left _ e5).trans hp
theorem euler {E : List (α × α)} {s t : α} (b : Bal s t E) (c : Conn s E) : ∃ r, lst s r = t ∧ (stp s r).Perm E := by
  obtain ⟨r, R, e1, e2⟩ := greedy _ E s t (Nat.le_refl _) b
  exact euler_go _ E R s t r (Nat.le_refl _) b c e1 e2

/-! ### what the program asks -/
/-- some journey has the counts, as the program asks it -/
structure Had (s : α) (E : List (α × α)) : Prop where
  up : ∀ v, outs E v ≤ inns E v + one (s = v)
  dn : ∀ v, inns E v ≤ outs E v + 1
  con : Conn s E
theorem Had.perm {s : α} {E F : List (α × α)} (h : Had s E) (p : E.Perm F) : Had s F :=
  ⟨fun v => by rw [← outs_perm p, ← inns_perm p]; exact h.up v, fun v => by rw [← outs_perm p, ← inns_perm p]; exact h.dn v, h.con.perm p⟩
theorem had_of_bal {s t : α} {E : List (α × α)} (b : Bal s t E) (c : Conn s E) : Had s E :=
  ⟨fun v => by have := b v; omega, fun v => by have := b v; have := one_le (t = v); omega, c⟩
theorem had_stp (r : List α) (s : α) : Had s (stp s r) := had_of_bal (bal_stp r s) (conn_stp r s)
theorem had_of {s : α} {r : List α} {E : List (α × α)} (h : (stp s r).Perm E) : Had s E := (had_stp r s).perm h

/-- the first step can lead to p -/
def Opn (s : α) (E : List (α × α)) (p : α) : Prop := (s, p) ∈ E ∧ Had p (E.erase (s, p))
theorem Opn.perm {s p : α} {E F : List (α × α)} (h : Opn s E p) (q : E.Perm F) : Opn s F p := ⟨q.mem_iff.mp h.1, h.2.perm (q.erase _)⟩
theorem perm_of_cons {s p : α} {E : List (α × α)} {r : List α} (h : (stp s (p :: r)).Perm E) : (s, p) ∈ E ∧ (stp p r).Perm (E.erase (s, p)) := by
  have hm : (s, p) ∈ E := h.mem_iff.mp List.mem_cons_self
  exact ⟨hm, (List.cons_perm_iff_perm_erase.mp h).2⟩
theorem cons_of_perm {s p : α} {E : List (α × α)} {r : List α} (hm : (s, p) ∈ E) (h : (stp p r).Perm (E.erase (s, p))) : (stp s (p :: r)).Perm E :=
  (List.Perm.cons _ h).trans (List.perm_cons_erase hm).symm
theorem opn_of_cons {s p : α} {E : List (α × α)} {r : List α} (h : (stp s (p :: r)).Perm E) : Opn s E p :=
  ⟨(perm_of_cons h).1, had_of (perm_of_cons h).2⟩
/-- where there is a journey, an open step begins one -/
theorem journey_of_opn {s p : α} {E : List (α × α)} {r : List α} (h : (stp s r).Perm E) (o : Opn s E p) : ∃ q, (stp s (p :: q)).Perm E := by
  have b : Bal s (lst s r) E := (bal_stp r s).perm h
  have b2 : Bal p (lst s r) (E.erase (s, p)) := bal_cons.mp (b.perm (List.perm_cons_erase o.1))
  obtain ⟨q, _, e⟩ := euler b2 o.2.con
  exact ⟨q, cons_of_perm o.1 e⟩
/-- .. and a step is open exactly if all hangs together behind it -/
theorem opn_iff {s p : α} {E : List (α × α)} {r : List α} (h : (stp s r).Perm E) : Opn s E p ↔ (s, p) ∈ E ∧ Conn p (E.erase (s, p)) := by
  constructor
  · exact fun o => ⟨o.1, o.2.con⟩
  · intro ⟨hm, c⟩
    have b : Bal s (lst s r) E := (bal_stp r s).perm h
    exact ⟨hm, had_of_bal (bal_cons.mp (b.perm (List.perm_cons_erase hm))) c⟩

/-- what sure_beginning does -/
inductive SB : α → List (α × α) → List α → Prop
  | stop {s : α} {E : List (α × α)} : ¬ (∃ p, Opn s E p ∧ ∀ q, Opn s E q → q = p) → SB s E [s]
  | go {s p : α} {E : List (α × α)} {w : List α} : Opn s E p → (∀ q, Opn s E q → q = p) → SB p (E.erase (s, p)) w → SB s E (s :: w)
theorem SB.perm {s : α} {E F : List (α × α)} {w : List α} (h : SB s E w) (q : E.Perm F) : SB s F w := by
  induction h generalizing F with
  | stop n => exact .stop fun ⟨p, a, b⟩ => n ⟨p, a.perm q.symm, fun x hx => b x (hx.perm q)⟩
  | go o u _ ih => exact .go (o.perm q) (fun x hx => u x (hx.perm q.symm)) (ih (q.erase _))
theorem SB.uniq {s : α} {E : List (α × α)} {w v : List α} (h : SB s E w) (g : SB s E v) : w = v := by
  induction h generalizing v with
  | stop n =>
    cases g with
    | stop _ => rfl
    | go o u _ => exact absurd ⟨_, o, u⟩ n
  | go o u _ ih =>
    cases g with
    | stop n => exact absurd ⟨_, o, u⟩ n
    | go o' u' g' =>
      have e := u' _ o
      subst e
      rw [ih g']
theorem SB.pos {s : α} {E : List (α × α)} {w : List α} (h : SB s E w) : 1 ≤ w.length := by
  cases h <;> simp
/-- all journeys begin so; and behind it, if it is not all, two of them part -/
theorem SB.shared {s : α} {E : List (α × α)} {w : List α} (h : SB s E w) (r : List α) (hr : (stp s r).Perm E) :
    (∀ q, (stp s q).Perm E → (s :: q).take w.length = w) ∧
    (w.length = E.length + 1 ∨ ∃ q q', (stp s q).Perm E ∧ (stp s q').Perm E ∧ (s :: q).take (w.length + 1) ≠ (s :: q').take (w.length + 1)) := by
  induction h generalizing r with
  | @stop s E n =>
    refine ⟨fun q hq => rfl, ?_⟩
    cases r with
    | nil => exact .inl (by rw [← hr.length_eq]; rfl)
    | cons p r =>
      refine .inr ?_
      have o := opn_of_cons hr
      have : ∃ q, Opn s E q ∧ q ≠ p := by
        apply Classical.byContradiction
        intro z
        refine n ⟨p, o, fun q hq => ?_⟩
        apply Classical.byContradiction
        exact fun z' => z ⟨q, hq, z'⟩
      obtain ⟨q, oq, ne⟩ := this
      obtain ⟨r', hr'⟩ := journey_of_opn hr oq
      refine ⟨p :: r, q :: r', hr, hr', fun e => ?_⟩
      have e' : [s, p] = [s, q] := e
      exact ne (by injection e' with _ e2; injection e2 with e3; exact e3.symm)
  | @go s p E w o u _ ih =>
    obtain ⟨r0, hr0⟩ := journey_of_opn hr o
    obtain ⟨i1, i2⟩ := ih r0 (perm_of_cons hr0).2
    have hlen := List.length_erase_of_mem o.1
    have hpos : 0 < E.length := List.length_pos_of_mem o.1
    refine ⟨fun q hq => ?_, ?_⟩
    · cases q with
      | nil =>
        have := hq.length_eq
        rw [stp_length] at this
        simp at this
        omega
      | cons x q =>
        have ox := u _ (opn_of_cons hq)
        subst ox
        show s :: (x :: q).take w.length = s :: w
        rw [i1 q (perm_of_cons hq).2]
    · rcases i2 with i2 | ⟨q, q', a, b, c⟩
      · left
        rw [List.length_cons, i2, hlen]
        omega
      · refine .inr ⟨p :: q, p :: q', cons_of_perm o.1 a, cons_of_perm o.1 b, fun e => c ?_⟩
        have e' : s :: (p :: q).take (w.length + 1) = s :: (p :: q').take (w.length + 1) := e
        exact (List.cons.inj e').2
/-- at each place of a journey: as long as it is sure, just one step is open; behind, none or several -/
theorem SB.along {s : α} {E : List (α × α)} {w : List α} (h : SB s E w) (r : List α) (hr : (stp s r).Perm E) :
    w = (s :: r).take w.length ∧ ∀ k, k < w.length → k ≤ r.length →
      ((∃ p, Opn (lst s (r.take k)) (stp (lst s (r.take k)) (r.drop k)) p ∧ ∀ q, Opn (lst s (r.take k)) (stp (lst s (r.take k)) (r.drop k)) q → q = p) ↔ k + 1 < w.length) := by
  induction h generalizing r with
  | @stop s E n =>
    refine ⟨rfl, fun k hk _ => ?_⟩
    have e : k = 0 := by simp at hk; exact hk
    subst e
    constructor
    · intro ⟨p, a, b⟩
      exact absurd ⟨p, a.perm hr, fun x hx => b x (hx.perm hr.symm)⟩ n
    · intro z
      simp at z
  | @go s p E w o u hw ih =>
    have hpos : 0 < E.length := List.length_pos_of_mem o.1
    cases r with
    | nil =>
      have := hr.length_eq
      rw [stp_length] at this
      simp at this
      omega
    | cons x r =>
      have ox := u _ (opn_of_cons hr)
      subst ox
      obtain ⟨i1, i2⟩ := ih r (perm_of_cons hr).2
      refine ⟨?_, fun k hk hkr => ?_⟩
      · show s :: w = s :: (x :: r).take w.length
        rw [← i1]
      · cases k with
        | zero =>
          constructor
          · intro _
            have := hw.pos
            rw [List.length_cons]
            omega
          · intro _
            exact ⟨x, o.perm hr.symm, fun q hq => u q (hq.perm hr)⟩
        | succ k =>
          rw [List.length_cons] at hk hkr
          have := i2 k (by omega) (by omega)
          rw [List.length_cons, Nat.add_lt_add_iff_right]
          exact this
end
end K76
/-! Plain mathematics: a journey turned round. -/
namespace K76
variable {α : Type} [DecidableEq α]
def sw (e : α × α) : α × α := (e.2, e.1)
theorem turn_stp : ∀ (r : List α) (s : α), ∃ r', (s :: r).reverse = lst s r :: r' ∧ stp (lst s r) r' = ((stp s r).map sw).reverse
  | [], s => ⟨[], rfl, rfl⟩
  | p :: r, s => by
    obtain ⟨r', h1, h2⟩ := turn_stp r p
    refine ⟨r' ++ [s], ?_, ?_⟩
    · rw [List.reverse_cons, h1]
      rfl
    · show stp (lst p r) (r' ++ [s]) = (((s, p) :: stp p r).map sw).reverse
      rw [stp_append, h2, List.map_cons, List.reverse_cons]
      congr 1
      have e : lst (lst p r) r' = p := by
        have a := lst_getLast r' (lst p r)
        rw [← h1, List.getLast?_reverse] at a
        exact (Option.some.inj a).symm
      rw [e]
      rfl
theorem turn_perm {r : List α} {s : α} {E : List (α × α)} (h : (stp s r).Perm E) : ∃ r', (s :: r).reverse = lst s r :: r' ∧ (stp (lst s r) r').Perm (E.map sw) := by
  obtain ⟨r', h1, h2⟩ := turn_stp r s
  refine ⟨r', h1, ?_⟩
  rw [h2]
  exact (List.reverse_perm _).trans (h.map _)
theorem sw_sw (E : List (α × α)) : (E.map sw).map sw = E := by
  rw [List.map_map]
  have : E.map (sw ∘ sw) = E.map id := List.map_congr_left fun e _ => rfl
  rw [this, List.map_id]
end K76
set_option Elab.async false
set_option linter.all false
set_option maxRecDepth 100000
/-! Rules that the layer lacks, first part: a static method called by its class, an operator and a subscript of an own class. -/
namespace K76
open PySem PySem.Spec PyProof.Rows L2
section
variable {X : Cx} {CX : CXT} {k : Nat} {C p g f : Addr} {mc : Value} {fd : FuncData} {ps : List Str} {sp : Sp} {dvs : List V} {ds : List Value} {E : XK} {o e a b : Expr} {es : List Expr} {m : Str} {pos apos : Pos} {ta tb : TE} {t : TA} {pl : Sem Bool}

/-- C.m is a staticmethod: its record at p, its def at g -/
structure SMet (K : PySem.W.Frag) (C : Addr) (mc : Value) (m : Str) (p g : Addr) : Prop where
  rd : PySem.W.readsIn K C mc = true
  ga : PySem.W.specialIn K (.ref C) "__getattribute__" = some (some (.builtin "type.__getattribute__"))
  at_ : PySem.W.findCls K (.ref C) mc m = some (.get (.builtin "staticmethod.__get__") (.ref p) .none (.ref C))
  rc : ∃ rest, PySem.W.recIn K p "staticmethod" = some (.ref g :: rest)
  kp : PySem.W.keepIn K (.ref g) = true

def tSMeth (C : Addr) (sp : Sp) (dvs : List V) (E : XK) (ta : TE) (t : TA) : TE := fun σ H Q => ta σ H fun x H1 => x = .ref C ∧ t σ H1 fun vs H2 => sp (vs ++ dvs) H2 Q E

theorem pe_smeth (he : PE X o ta) (c : SMet X.K C mc m p g) (F : FnOk X.prog X.w X.K X.mg X.base CX k g fd ps sp) (hr : Room k X.A) (hb : Binds X.K fd ps ds) (hd : Vals dvs ds) (hx : Passes CX X E) (ha : PA X (e :: es) t)
    (hst : starEach (e :: es) X.env = (false, eval e X.env) :: starEach es X.env := by rfl) (hpl : (backTo pos (starEach es X.env)).any (·.1) = false := by rfl)
    (ht : eval (.Call (.Attribute o m apos) (e :: es) [] pos) X.env = (do
      let ov ← eval o X.env
      standAt apos.atName
      let (f, first) ← holding [ov] (getMethod ov m pl)
      callWith pos f first (backTo pos (starEach (e :: es) X.env)) (backToKw pos (keywordEach [] X.env))) := by rfl) :
    PE X (.Call (.Attribute o m apos) (e :: es) [] pos) (tSMeth C sp dvs E ta t) := by
  refine ⟨fun pins s σ H Q I h => ?_⟩
  refine PySem.W.methodCall_KW (pl := pl) (thn (he.run pins s σ H _ I h) fun u s1 ⟨x, H1, I1, rx, ex, q⟩ => ?_) ht
  subst ex
  obtain rfl : u = Value.ref C := rx
  obtain ⟨rest, hp⟩ := c.rc
  refine PySem.W.method_cls I1.kIn c.ga (PySem.W.cls_bind I1.kIn c.rd c.at_ (wpAny_call (PySem.W.sm_get (s := { s1 with toks := s1.toks + 1 }) I1.kIn hp (PySem.W.handed_on rfl ?_))))
  have I2 := I1.tok (s1.toks + 1)
  refine PySem.W.callWith_K (h₀ := X.base) I.ok.mod.kin c.kp (thn (ha.run pos pins _ σ H1 _ I2 q) fun us s2 ⟨vs, H2, I3, r, q2⟩ => ⟨I3.kIn, ?_⟩) hst hpl
  exact run_fn F hr hb hd hx I3 r q2

/-- an instance as OpenK's rules want it -/
theorem inst_at {pins : List (Addr × Obj)} {σ : L2.St} {H : Hp} {s : Shared} {x dx : Addr} {fs : List (Str × V)} (I : Inv X pins σ H s) (h : H x = some (.ins C dx fs)) :
    ∃ od, PySem.W.InstAt s.heap x (PySem.W.instObj C dx) C (some od) := by
  obtain ⟨mA, O, _⟩ := ins_get I.hok h
  obtain ⟨od, J, _⟩ := O.look
  exact ⟨od, J⟩

/-- a op b of two instances of C, by C's own def -/
def rOwn (C : Addr) (sp : Sp) (dvs : List V) (E : XK) : R2 := fun x y H Q => ∃ a b dx dy fs gs, x = .ref a ∧ y = .ref b ∧ H a = some (.ins C dx fs) ∧ H b = some (.ins C dy gs) ∧
  sp ([.ref a, .ref b] ++ dvs) H (fun v H' => (∃ q, v = .ref q) ∧ Q v H') E
theorem op_own {op : Operator} (hm : PySem.W.findIn X.K (.ref C) (PySem.dunder op.info.2) = some (some (.ref f))) (hf : PySem.W.isFn X.K (.ref f) = true) (hs : PySem.W.selfFirst X.K C = true)
    (F : FnOk X.prog X.w X.K X.mg X.base CX k f fd ps sp) (hr : Room k X.A) (hb : Binds X.K fd ps ds) (hd : Vals dvs ds) (hx : Passes CX X E) : OpR X (binaryOp op) (rOwn C sp dvs E) := by
  intro pins s σ H x y v u Q I rx ry h
  obtain ⟨a, b, dx, dy, fs, gs, rfl, rfl, ha, hb', q⟩ := h
  cases rx
  cases ry
  obtain ⟨oa, Ja⟩ := inst_at I ha
  obtain ⟨ob, Jb⟩ := inst_at I hb'
  obtain ⟨m, hF⟩ := I.fr
  refine PySem.W.binop_K hF I.mod.kin Ja Jb.type hs hm hf (thn (run_fn (us := [.ref a, .ref b]) (vs := [.ref a, .ref b]) F hr hb hd hx I (.cons rfl (.cons rfl .nil)) q) fun v' s' hv => ?_)
  obtain ⟨w, H', I', rw', ⟨z, ez⟩, q'⟩ := hv
  subst ez
  cases rw'
  exact ⟨.ref z, H', I', rfl, q'⟩

/-- the callee runs one unit deeper -/
theorem run_in1 {pins : List (Addr × Obj)} {σ : L2.St} {H : Hp} {s : Shared} {Q : VK} {us : List Value} {vs : List V} (F : FnOk X.prog X.w X.K X.mg X.base CX k f fd ps sp) (hr : Room (k + 1) X.A) (hb : Binds X.K fd ps ds) (hd : Vals dvs ds) (hx : Passes CX X E)
    (I : Inv X pins σ H s) (r : Vals vs us) (h : sp (vs ++ dvs) H Q E) : wpAny (model X.prog X.w) X.A.in1 (call (.ref f) us) (EP X pins σ Q) X.xe s := by
  have r2 : Vals (vs ++ dvs) (us ++ ds) := r.append hd
  have hl : (us ++ ds).length = ps.length := by rw [← r2.length]; exact F.len _ _ _ _ h
  refine wpAny_call (codeAny_mono (F.run X.A.in1 X.stack s H ⟨us, []⟩ (us ++ ds) (vs ++ dvs) Q E hr.in1 I.env0.in1 (hb s us I.kIn hl) r2 h) fun r s' hq => ?_)
  cases r with
  | error e => exact hx pins σ H s e s' I hq
  | ok fl =>
    cases fl with
    | ret u => exact I.after hq
    | next => exact False.elim hq
    | brk => exact False.elim hq
    | cont => exact False.elim hq

/-- a[b], a an instance of C with its own way -/
def rOwnIx (C : Addr) (sp : Sp) (dvs : List V) (E : XK) : R2 := fun x y H Q => ∃ a dx fs, x = .ref a ∧ H a = some (.ins C dx fs) ∧ sp ([.ref a, y] ++ dvs) H Q E
theorem pe_ownix (hm : PySem.W.findIn X.K (.ref C) "__getitem__" = some (some (.ref f))) (hi : PySem.W.fnIn X.K f = true) (hf : PySem.W.isFn X.K (.ref f) = true)
    (F : FnOk X.prog X.w X.K X.mg X.base CX k f fd ps sp) (hr : Room (k + 1) X.A) (hb : Binds X.K fd ps ds) (hd : Vals dvs ds) (hx : Passes CX X E) (ha : PE X a ta) (hb' : PE X b tb)
    (hsl : ∀ (x : Addr) (i : Value), subscripted b true (.ref x) i = runValue (.builtin "lifetime.subscript" ⟨[.ref x, i], []⟩) := by intro _ _; with_unfolding_all rfl) :
    PE X (.Subscript a b pos) (tOp (rOwnIx C sp dvs E) ta tb) := by
  refine ⟨fun pins s σ H Q I h => ?_⟩
  refine Subscript_ (binT ha hb' I h fun v u s2 x y H2 I2 rx ry q => ?_)
  obtain ⟨z, dx, fs, rfl, hz, q⟩ := q
  cases rx
  obtain ⟨oz, Jz⟩ := inst_at I2 hz
  obtain ⟨m, hF⟩ := I2.fr
  exact PySem.W.sub_K hF I2.mod.kin Jz hm hi hf (run_in1 (us := [.ref z, u]) (vs := [.ref z, y]) F hr hb hd hx I2 (.cons rfl (.cons ry .nil)) q) (hsl z u)
end
end K76
set_option Elab.async false
set_option linter.all false
set_option maxRecDepth 100000
set_option maxHeartbeats 2000000
/-! Rules that the layer lacks, second part: t[::-1] of a tuple, list of a text, count and remove of data. -/
namespace K76
open PySem PySem.Spec PyProof.Rows L2 HT

/-! ### t[::-1] -/
theorem rev_adjust (n : Nat) : Builtin.Slice.sliceAdjust none none (-1) (n : Int) = ((n : Int) - 1, -1) := by
  unfold Builtin.Slice.sliceAdjust
  rfl
theorem rev_places (n : Nat) : Builtin.Slice.slicePlaces ((n : Int) - 1) (-1) (-1) = n := by
  unfold Builtin.Slice.slicePlaces
  rw [if_neg (by omega)]
  by_cases h : ((n : Int) - 1) > -1
  · rw [if_pos h]
    simp only [Int.neg_neg, Int.ediv_one]
    omega
  · rw [if_neg h]
    omega
theorem pick_rev (xs : Array Value) : ((List.range xs.size).filterMap fun (m : Nat) => xs[((xs.size : Int) - 1 + (m : Int) * (-1)).toNat]?).toArray = xs.toList.reverse.toArray := by
  have e : (fun (m : Nat) => xs[((xs.size : Int) - 1 + (m : Int) * (-1)).toNat]?) = (fun (k : Nat) => xs[k]?) ∘ fun (m : Nat) => ((xs.size : Int) - 1 + (m : Int) * (-1)).toNat := rfl
  rw [e, ← List.filterMap_map]
  have e2 : (List.range xs.size).map (fun (m : Nat) => ((xs.size : Int) - 1 + (m : Int) * (-1)).toNat) = (List.range xs.size).map fun k => xs.size - 1 - k := by
    apply List.map_congr_left
    intro k hk
    have := List.mem_range.mp hk
    omega
  rw [e2, PySem.W.krv_range, List.filterMap_reverse, PySem.W.krv_all]
section
variable {prog : Program} {w : World} {A : Around} {E : Value → Shared → Prop} {s : Shared}
theorem applied_rev {sl : Addr} {u : Tok} {n : Nat} {Q : Int × Int × Nat → Shared → Prop} (hs : s.heap.IsSliceOf sl .none .none (.int (-1) u))
    (h : Q ((n : Int) - 1, -1, n) s) : wpAny (model prog w) A (Builtin.Slice.sliceApplied (.ref sl) (pure (n : Int))) Q E s := by
  obtain ⟨os, hos, hcs, hds⟩ := id hs
  unfold Builtin.Slice.sliceApplied Builtin.Slice.sliceFields
  refine wpAny_bind (wpAny_bind (wpAny_field hos hds (x := .none) rfl (wpAny_bind (wpAny_field hos hds (x := .none) rfl (wpAny_bind (wpAny_field hos hds (x := .int (-1) u) rfl (wpAny_pure ?_)))))))
  refine wpAny_bind (slicePart_int ?_)
  show wpAny _ _ (if ((-1 : Int) == 0) = true then _ else _) _ _ s
  rw [if_neg (by decide)]
  refine wpAny_bind (slicePart_none (wpAny_bind (slicePart_none (wpAny_bind (wpAny_pure ?_)))))
  show wpAny _ _ (match Builtin.Slice.sliceAdjust none none (-1) (n : Int) with | (lo, hi) => pure (lo, (-1 : Int), Builtin.Slice.slicePlaces lo hi (-1))) _ _ s
  rw [rev_adjust]
  show wpAny _ _ (pure ((n : Int) - 1, (-1 : Int), Builtin.Slice.slicePlaces ((n : Int) - 1) (-1) (-1))) _ _ s
  rw [rev_places]
  exact wpAny_pure h
theorem getItem_tuple_rev {t sl : Addr} {items : Array Value} {u : Tok} {Q : Value → Shared → Prop} (ht : IsTup s.heap t items) (hs : s.heap.IsSliceOf sl .none .none (.int (-1) u))
    (h : Q (.ref s.heap.objs.size) { s with heap := s.heap.push { cls := .type "tuple", data := .seq items.toList.reverse.toArray } })
    (hsz : items.size ≤ sizeLine) : wpAny (model prog w) A (getItem (.ref t) (.ref sl)) Q E s := by
  have hz : sizeOk (.seq items.toList.reverse.toArray) := by
    show items.toList.reverse.toArray.size ≤ sizeLine
    rw [List.size_toArray, List.length_reverse, Array.length_toList]
    exact hsz
  obtain ⟨os, hos, hcs, hds⟩ := id hs
  have hTs : s.TypeIs (.ref sl) "slice" := ⟨os, hos, hcs⟩
  unfold getItem
  try with_reducible refine wpAny_holding ?_
  first | refine wpAny_bind (wpAny_pure ?_) | skip
  refine wpAny_bind (wpAny_sequenceKey ht.typeIs (by decide) ?_)
  refine wpAny_bind (wpAny_callSpecial?_slot (name := Str.ofString "__getitem__") ht.typeIs PyProof.Rows.slot_tuple_getitem
    (wpAny_call_entry PyProof.Rows.slot_tuple_getitem ht.typeIs entry_tuple_getitem ?_ (args_tuple_getitem _ _)))
  show wpAny _ _ (Builtin.Tuple.tupleItemsOf (.ref t) >>= _) _ _ s
  refine wpAny_bind (tupleItemsOf_ ht ?_)
  refine wpAny_bind (wpAny_typeOf hTs ?_)
  rw [if_pos (by decide)]
  refine wpAny_bind (applied_rev hs ?_)
  have hno : ¬ ((((items.size : Int) - 1) == 0 && (-1 : Int) == 1 && items.size == items.size) = true) := by
    intro q
    rw [Bool.and_eq_true, Bool.and_eq_true] at q
    exact absurd q.1.2 (by decide)
  show wpAny _ _ (if (((items.size : Int) - 1) == 0 && (-1 : Int) == 1 && items.size == items.size) = true then _ else _) _ _ s
  rw [if_neg hno, pick_rev]
  first
    | exact wpAny_bind (m := Builtin.Tuple.tupleExact _) (wpAny_newObj_type (wpAny_pure ⟨_, rfl, wpAny_pure h⟩) hz)
    | exact wpAny_bind (m := Builtin.Tuple.tupleExact _) (wpAny_newObj_type (wpAny_bind (wpAny_pure (wpAny_pure ⟨_, rfl, wpAny_pure h⟩))) hz)
    | exact wpAny_bind (wpAny_bind (m := Builtin.Tuple.tupleExact _) (wpAny_newObj_type (wpAny_pure (wpAny_pure ⟨_, rfl, wpAny_pure h⟩)) hz))
    | exact wpAny_bind (wpAny_bind (m := Builtin.Tuple.tupleExact _) (wpAny_newObj_type (wpAny_pure ⟨_, rfl, wpAny_pure h⟩) hz))
end
def tRevT (K : PySem.W.Frag) (te : TE) : TE := fun σ H Q => te σ H fun x H1 => ∃ a xs, x = .ref a ∧ SqT K H1 a xs ∧ ∀ p, H1 p = none → Q (.ref p) (upd H1 p (.tup xs.reverse))
theorem pe_revT {X : Cx} {e : Expr} {te : TE} {k : Nat} {p1 p2 p3 pos : Pos} (he : PE X e te) : PE X (.Subscript e (.Slice none none (some (.UnaryOp .USub (.Constant (.int 1) k p1) p2)) p3) pos) (tRevT X.K te) := by
  refine ⟨fun pins s σ H Q I h => ?_⟩
  refine Subscript_ (thn (he.run pins s σ H _ I h) fun v s1 ⟨x, H1, I1, r1, q1⟩ => ?_)
  obtain ⟨a, xs, ex, hx, q⟩ := q1
  subst ex
  cases r1
  have hst : PO X (some (.UnaryOp .USub (.Constant (.int 1) k p1) p2)) (tPart (tUn (rU fun i => .int (-i)) (tC (.int 1)))) := po_some (pe_un un_neg pe_int)
  refine wpAny_Slice (thn (po_none.run pins s1 σ H1 (fun o H2 => o = none ∧ H2 = H1) I1 ⟨rfl, rfl⟩) fun vl s2 ⟨l, H2, I2, pl, el, e2⟩ => ?_)
  subst el e2
  refine thn (po_none.run pins s2 σ H2 (fun o H3 => o = none ∧ H3 = H2) I2 ⟨rfl, rfl⟩) fun vu s3 ⟨u, H3, I3, pu, eu, e3⟩ => ?_
  subst eu e3
  refine thn (hst.run pins s3 σ H3 (fun o H4 => o = some (-1) ∧ H4 = H3) I3 ⟨1, rfl, -1, rfl, rfl, rfl⟩) fun vs s4 ⟨o, H4, I4, ps, eo, e4⟩ => ?_
  subst eo e4
  cases pl
  cases pu
  cases ps with
  | int _ t =>
    have I5 : Inv X pins σ H4 { s4 with heap := s4.heap.push { cls := .type "slice", data := .fields #[.none, .none, .int (-1) t] } } := I4.kept (t' := s4.toks) fun b ob q => Heap.get?_push_of_some _ q
    obtain ⟨its, r, ht, hz⟩ := I5.tuple hx
    have hlen := r.length
    show wpAny (model X.prog X.w) X.A (subscriptTail e (.Slice none none (some (.UnaryOp .USub (.Constant (.int 1) k p1) p2)) p3) (.ref a) (.ref s4.heap.objs.size)) (EP X pins σ Q) X.xe { s4 with heap := s4.heap.push { cls := .type "slice", data := .fields #[.none, .none, .int (-1) t] } }
    refine tail_any (ops := [.ref a, .ref s4.heap.objs.size]) ht.typeIs (PyProof.Rows.slot_tuple_getitem.lookup) ?_ (by with_unfolding_all rfl)
    refine getItem_tuple_rev ht (Heap.IsSliceOf.new _ _ _ _) ?_ (by rw [List.size_toArray]; omega)
    refine ⟨.ref _, _, I5.laid (t' := s4.toks) (o := .tup xs.reverse) (fun b ob q => Heap.get?_push_of_some _ q) (Nat.le_refl _) ?_, rfl, q _ (I5.hok.fresh (Nat.le_refl _))⟩
    exact ⟨by rw [List.length_reverse]; exact hz, _, r.reverse, IsTup.new _ _⟩

/-! ### list(text) -/
theorem signs_vals {x : Str} {acc : Array Value} (h : ItemsOf (SignAt x) acc x.cps.size) : Vals (x.cps.toList.map fun c => V.str ⟨#[c]⟩) acc.toList := by
  have key : ∀ (cs : List Nat) (us : List Value), us.length = cs.length → (∀ (i : Nat) (u : Value), us[i]? = some u → ∃ (c : Nat) (t : Tok), cs[i]? = some c ∧ u = Value.str ⟨#[c]⟩ t) → Vals (cs.map fun c => V.str ⟨#[c]⟩) us := by
    intro cs
    induction cs with
    | nil =>
      intro us hl _
      cases us with
      | nil => exact .nil
      | cons _ _ => cases hl
    | cons c cs ih =>
      intro us hl hh
      cases us with
      | nil => cases hl
      | cons u us =>
        obtain ⟨c', t, e1, e2⟩ := hh 0 u rfl
        have e3 : c = c' := Option.some.inj e1
        subst e3
        exact .cons ⟨t, e2⟩ (ih us (by simpa using hl) fun i v hv => by
          obtain ⟨c2, t2, a, b⟩ := hh (i + 1) v (by simpa using hv)
          exact ⟨c2, t2, by simpa using a, b⟩)
  refine key _ _ ?_ fun i u hu => ?_
  · rw [Array.length_toList, Array.length_toList, h.1]
  · obtain ⟨c, t, e1, e2⟩ := h.2 i u (by rw [← Array.getElem?_toList]; exact hu)
    exact ⟨c, t, by rw [Array.getElem?_toList]; exact e1, e2⟩
theorem call_listS {X : Cx} (hc : X.calm = true) : CallR X (.type "list") (fun xs H Q => ∃ z, xs = [.str z] ∧ z.cps.size ≤ sizeLine ∧ ∀ l, H l = none → Q (.ref l) (upd H l (.lst (z.cps.toList.map fun c => V.str ⟨#[c]⟩)))) := by
  intro pins s σ H xs us Q I r h
  obtain ⟨z, rfl, hz, q⟩ := h
  obtain ⟨u, rfl, t, rfl⟩ := vals1 r
  refine call_list_str (I.ok.hd hc) z t (fun h' tk acc' c' hk hS' hacc => ?_) hz
  have rv := signs_vals hacc
  refine ⟨.ref s.heap.objs.size, _, I.laid (t' := tk) (o := .lst (z.cps.toList.map fun c => V.str ⟨#[c]⟩)) hk (Nat.le_refl _) ?_, rfl, q _ I.fresh⟩
  refine ⟨by rw [List.length_map, Array.length_toList]; exact hz, acc'.toList, c', rv, ?_⟩
  rw [Array.toArray_toList]
  exact hS'

/-! ### data: each value is of one datum -/
section
variable {X : Cx} {pins : List (Addr × Obj)} {σ : L2.St} {H : Hp} {s : Shared}
theorem not_both (I : Inv X pins σ H s) {a : Addr} {xs ys : List V} (h1 : SqL X.K H a xs) (h2 : SqT X.K H a ys) : False := by
  obtain ⟨_, _, ⟨o, n, e, hc, _, _⟩, _⟩ := I.list h1
  obtain ⟨_, _, ⟨o', e', hc', _⟩, _⟩ := I.tuple h2
  rw [e] at e'
  cases e'
  rw [hc] at hc'
  exact absurd hc' (by decide)
mutual
theorem dp_inj (I : Inv X pins σ H s) : ∀ (d d' : PyData) (v : V), Dp X.K H v d → Dp X.K H v d' → d = d'
  | .none, d', _, h, h' => by cases h; cases h'; rfl
  | .bool b, d', _, h, h' => by cases h; cases h'; rfl
  | .int i, d', _, h, h' => by cases h; cases h'; rfl
  | .str x, d', _, h, h' => by cases h; cases h'; rfl
  | .list ds, d', _, h, h' => by
    cases h with
    | lst hs ha =>
      cases h' with
      | lst hs' ha' =>
        have e := I.list_inj hs hs'
        subst e
        rw [dpAll_inj I ds _ _ ha ha']
      | tup hs' ha' => exact (not_both I hs hs').elim
  | .tuple ds, d', _, h, h' => by
    cases h with
    | tup hs ha =>
      cases h' with
      | lst hs' ha' => exact (not_both I hs' hs).elim
      | tup hs' ha' =>
        have e := I.tuple_inj hs hs'
        subst e
        rw [dpAll_inj I ds _ _ ha ha']
  | .dict _, _, _, h, _ => by cases h
theorem dpAll_inj (I : Inv X pins σ H s) : ∀ (ds ds' : List PyData) (vs : List V), DpAll X.K H vs ds → DpAll X.K H vs ds' → ds = ds'
  | [], ds', _, h, h' => by cases h; cases h'; rfl
  | d :: ds, ds', _, h, h' => by
    cases h with
    | cons h1 h2 =>
      cases h' with
      | cons h3 h4 => rw [dp_inj I d _ _ h1 h3, dpAll_inj I ds _ _ h2 h4]
end
theorem dpAll_length {K : PySem.W.Frag} {H : Hp} : ∀ {vs : List V} {ds : List PyData}, DpAll K H vs ds → vs.length = ds.length
  | _, _, .nil => rfl
  | _, _, .cons _ h => by rw [List.length_cons, List.length_cons, dpAll_length h]
theorem dpAll_get {K : PySem.W.Frag} {H : Hp} : ∀ {vs : List V} {ds : List PyData} {i : Nat} {v : V}, DpAll K H vs ds → vs[i]? = some v → ∃ d, ds[i]? = some d ∧ Dp K H v d
  | _, _, _, _, .nil, e => by simp at e
  | _, _, 0, _, .cons h _, e => by
    simp at e
    subst e
    exact ⟨_, rfl, h⟩
  | _, _, i + 1, v, .cons _ h, e => by
    obtain ⟨d, h1, h2⟩ := dpAll_get (i := i) (v := v) h (by simpa using e)
    exact ⟨d, by simpa using h1, h2⟩
/-- two data compared -/
theorem dp_eqAt (I : Inv X pins σ H s) {y x : V} {d e : PyData} {u v : Value} (hy : Dp X.K H y d) (hx : Dp X.K H x e) (ry : RelV y u) (rx : RelV x v) (sd : SeqAt.shaped d = true) (se : SeqAt.shaped e = true) {A : Around}
    (hu : A.units + 64 < cLine) : SeqAt.EqAt A s u v (PyData.eqv d e) := by
  obtain ⟨as, r1⟩ := Dp.reads I d y u hy ry
  obtain ⟨bs, r2⟩ := Dp.reads I e x v hx rx
  exact SeqAt.eqAt_reads d e A s u v as bs r1 r2 (SeqAt.canLay_of_shaped sd) (SeqAt.canLay_of_shaped se) (SeqAt.room_of_shaped sd hu)
/-- which items of a list are equal to a thing, asked by their values -/
noncomputable def eqOf (K : PySem.W.Frag) (H : Hp) (e : PyData) (u : Value) : Bool :=
  open Classical in decide (∃ y d, RelV y u ∧ Dp K H y d ∧ PyData.eqv d e = true)
theorem eqOf_at (I : Inv X pins σ H s) {y : V} {d e : PyData} {u : Value} (hy : Dp X.K H y d) (ry : RelV y u) : eqOf X.K H e u = PyData.eqv d e := by
  unfold eqOf
  cases h : PyData.eqv d e with
  | true => exact @decide_eq_true _ (_) ⟨y, d, ry, hy, h⟩
  | false =>
    refine @decide_eq_false _ (_) fun ⟨y', d', ry', hy', h'⟩ => ?_
    have e1 := ry.inj ry'
    subst e1
    rw [dp_inj I _ _ _ hy hy', h'] at h
    cases h
theorem eqOf_items (I : Inv X pins σ H s) {ys : List V} {ds : List PyData} {its : List Value} {x : V} {e : PyData} {v : Value} (hys : DpAll X.K H ys ds) (r : Vals ys its) (hx : Dp X.K H x e) (rx : RelV x v)
    (sd : ∀ d ∈ ds, SeqAt.shaped d = true) (se : SeqAt.shaped e = true) {A : Around} (hu : A.units + 64 < cLine) : ∀ u, u ∈ its → SeqAt.EqAt A s u v (eqOf X.K H e u) := fun u hu' => by
  obtain ⟨i, hi⟩ := List.mem_iff_getElem?.mp hu'
  have hl := r.length
  have hlt : i < ys.length := by rw [hl]; exact (List.getElem?_eq_some_iff.mp hi).1
  obtain ⟨u', e1, ry⟩ := r.get (List.getElem?_eq_getElem hlt)
  rw [hi] at e1
  cases e1
  obtain ⟨d, hd, hy⟩ := dpAll_get hys (List.getElem?_eq_getElem hlt)
  rw [eqOf_at I hy ry]
  exact dp_eqAt I hy hx ry rx (sd d (List.mem_of_getElem? hd)) se hu
theorem eqOf_count (I : Inv X pins σ H s) {e : PyData} : ∀ {ys : List V} {ds : List PyData} {its : List Value}, DpAll X.K H ys ds → Vals ys its → its.countP (eqOf X.K H e) = ds.countP fun d => PyData.eqv d e
  | _, _, _, .nil, .nil => rfl
  | _, _, _, .cons h1 h2, .cons r1 r2 => by
    rw [List.countP_cons, List.countP_cons, eqOf_count I h2 r2, eqOf_at I h1 r1]
end

/-! ### xs.count(y), xs.remove(y) -/
def rCntD (K : PySem.W.Frag) : V → List V → Hp → VK → Prop := fun x xs H Q => ∃ (p : Addr) (ys : List V) (ds : List PyData) (y : V) (e : PyData), x = .ref p ∧ xs = [y] ∧ SqL K H p ys ∧ DpAll K H ys ds ∧ Dp K H y e ∧
  (∀ d ∈ ds, SeqAt.shaped d = true) ∧ SeqAt.shaped e = true ∧ Q (.int (ds.countP fun d => PyData.eqv d e : Nat)) H
theorem mt_countD {X : Cx} (hu : X.A.units + 65 < cLine) : MtR X "list.count" (rCntD X.K) := by
  intro pins s σ H x xs v us Q I rx rxs h
  obtain ⟨p, ys, ds, y, e, rfl, rfl, hs, hys, hy, sd, se, q⟩ := h
  cases rx
  obtain ⟨u, rfl, ru⟩ := vals1 rxs
  obtain ⟨its, rv, ⟨⟨cls, dd, data, sl⟩, n, ho, hc, hdn, hd⟩, hlen⟩ := I.list hs
  simp only at hc hd
  subst hc hd
  refine call_meets PySem.F.slot_list_count ⟨_, ho, rfl⟩ PySem.F.entry_list_count (PySem.F.args_list_count_2 _ _)
    (SeqAt.list_countAt p its.toArray n dd sl u (eqOf X.K H e)) ⟨ho, fun z hz => eqOf_items I hys rv hy ru sd se (by show X.A.units + 1 + 64 < cLine; omega) z (by simpa using hz), ?_⟩
  refine ⟨.int (ds.countP fun d => PyData.eqv d e : Nat), H, I.tok _, ⟨s.toks, ?_⟩, q⟩
  rw [← eqOf_count I hys rv]
theorem remove_at (l : Addr) (items : Array Value) (n : Nat) (x : Value) (e : Value → Bool) (j : Nat) (hj : j < items.size) (hit : e items[j] = true) (hs1 : items.size ≤ sizeLine) (k : Nat) :
    ∀ i : Nat, j - i = k → i ≤ j → (∀ m (hm : m < items.size), i ≤ m → m < j → e items[m] = false) → Meets (Builtin.«list.remove.loop» ⟨[.ref l, x, rawInt i], []⟩)
      (fun A R s => s.heap.get? l = some { cls := .type "list", dict := none, data := .seq items n, slots := #[] } ∧ (∀ y, y ∈ items → SeqAt.EqAt A.in1 s y x (e y)) ∧
        R (.ok (.ret .none)) { s with heap := s.heap.update l (Obj.mapSeq fun xs => xs.eraseIdxIfInBounds j) }) := by
  induction k with
  | zero =>
    intro i hk hij hno prog w A R s h
    obtain ⟨hp, g, d, tk, os⟩ := s
    obtain ⟨hl, he, h⟩ := h
    obtain rfl : i = j := by omega
    wp_walk using AutoSeq1.wpAny_loadPart' hl
    rw [show items[((i : Nat) : Int).toNat]? = some items[i] by simp [hj]]
    refine wpAny_bind (he _ (Array.getElem_mem hj) prog w _ _ ?_)
    rw [hit]
    have hz' : (items.eraseIdxIfInBounds i).size ≤ sizeLine + 1 := Nat.le_trans (MeetsSeq.size_erased items _) (Nat.le_succ_of_le hs1)
    wp_walk using (wpAny_updateSeq hl rfl (hz := hs1) (_hz' := hz')), AutoSeq1.wpAny_loadPart' hl
    simpa using h
  | succ k ih =>
    intro i hk hij hno prog w A R s h
    obtain ⟨hp, g, d, tk, os⟩ := s
    obtain ⟨hl, he, h⟩ := h
    have hlt : i < items.size := by omega
    wp_walk using AutoSeq1.wpAny_loadPart' hl
    rw [show items[((i : Nat) : Int).toNat]? = some items[i] by simp [hlt]]
    refine wpAny_bind (he _ (Array.getElem_mem hlt) prog w _ _ ?_)
    rw [hno i hlt (Nat.le_refl _) (by omega)]
    wp_walk
    rw [show ((i : Int) + 1) = ((i + 1 : Nat) : Int) by push_cast; rfl]
    exact ⟨plainId_quiet MeetsSeq.plain_remove_loop _, codeAny_builtin MeetsSeq.entry_remove_loop (by
      rw [Around.under_plainId MeetsSeq.plain_remove_loop _]
      exact ih (i + 1) (by omega) (by omega) (fun m hm h1 h2 => hno m hm (by omega) h2) prog w A R _ ⟨hl, he, h⟩)⟩
theorem remove_meets (l : Addr) (items : Array Value) (n : Nat) (x : Value) (e : Value → Bool) (j : Nat) (hj : j < items.size) (hit : e items[j] = true) (hno : ∀ m (hm : m < items.size), m < j → e items[m] = false) (hs1 : items.size ≤ sizeLine) :
    Meets (Builtin.«list.remove» ⟨[.ref l, x], []⟩)
      (fun A R s => s.heap.get? l = some { cls := .type "list", dict := none, data := .seq items n, slots := #[] } ∧ (∀ y, y ∈ items → SeqAt.EqAt A.in1 s y x (e y)) ∧
        R (.ok (.ret .none)) { s with heap := s.heap.update l (Obj.mapSeq fun xs => xs.eraseIdxIfInBounds j) }) := by
  intro prog w A R s h
  obtain ⟨hp, g, d, tk, os⟩ := s
  obtain ⟨hl, he, h⟩ := h
  wp_walk using AutoSeq1.wpAny_loadPart' hl
  exact ⟨plainId_quiet MeetsSeq.plain_remove_loop _, codeAny_builtin MeetsSeq.entry_remove_loop (by
    rw [Around.under_plainId MeetsSeq.plain_remove_loop _]
    exact remove_at l items n x e j hj hit hs1 _ 0 rfl (Nat.zero_le _) (fun m hm _ h2 => hno m hm h2) prog w A R _ ⟨hl, he, h⟩)⟩
theorem vals_erase : ∀ {xs : List V} {us : List Value} (j : Nat), Vals xs us → Vals (xs.eraseIdx j) (us.eraseIdx j)
  | _, _, _, .nil => .nil
  | _, _, 0, .cons _ t => t
  | _, _, j + 1, .cons r t => .cons r (vals_erase j t)
def rRemD (K : PySem.W.Frag) : V → List V → Hp → VK → Prop := fun x xs H Q => ∃ (l : Addr) (ys : List V) (ds : List PyData) (y : V) (e d : PyData) (j : Nat), x = .ref l ∧ xs = [y] ∧ H l = some (.lst ys) ∧ DpAll K H ys ds ∧ Dp K H y e ∧
  (∀ d ∈ ds, SeqAt.shaped d = true) ∧ SeqAt.shaped e = true ∧ ds[j]? = some d ∧ PyData.eqv d e = true ∧ (∀ m d', m < j → ds[m]? = some d' → PyData.eqv d' e = false) ∧ Q .non (upd H l (.lst (ys.eraseIdx j)))
theorem mt_removeD {X : Cx} (hu : X.A.units + 65 < cLine) : MtR X "list.remove" (rRemD X.K) := by
  intro pins s σ H x xs v us Q I rx rxs h
  obtain ⟨l, ys, ds, y, e, d, j, rfl, rfl, hH, hys, hy, sd, se, hj, hit, hno, q⟩ := h
  cases rx
  obtain ⟨u, rfl, ru⟩ := vals1 rxs
  obtain ⟨z, its, n, r, hl, ho⟩ := I.lstM hH
  have hdl := dpAll_length hys
  have at_ : ∀ m (hm : m < its.toArray.size), ∃ d', ds[m]? = some d' ∧ eqOf X.K H e its.toArray[m] = PyData.eqv d' e := fun m hm => by
    rw [List.size_toArray] at hm
    have hm2 : m < ys.length := by omega
    obtain ⟨w', e1, rw'⟩ := r.get (List.getElem?_eq_getElem hm2)
    obtain ⟨d', e2, hd'⟩ := dpAll_get hys (List.getElem?_eq_getElem hm2)
    refine ⟨d', e2, ?_⟩
    have e3 : its.toArray[m] = w' := by
      rw [List.getElem?_eq_getElem hm] at e1
      simpa using e1
    rw [e3, eqOf_at I hd' rw']
  have hjs : j < its.toArray.size := by
    rw [List.size_toArray, ← hl, hdl]
    exact (List.getElem?_eq_some_iff.mp hj).1
  refine call_meets PySem.F.slot_list_remove ⟨_, ho, rfl⟩ PySem.F.entry_list_remove (PySem.F.args_list_remove_2 _ _)
    (remove_meets l its.toArray n u (eqOf X.K H e) j hjs ?_ ?_ (by rw [List.size_toArray]; omega)) ⟨ho, fun z hz => eqOf_items I hys r hy ru sd se (by show X.A.units + 1 + 64 < cLine; omega) z (by simpa using hz), ?_⟩
  · obtain ⟨d', e1, e2⟩ := at_ j hjs
    rw [e2]
    rw [hj] at e1
    cases e1
    exact hit
  · intro m hm hmj
    obtain ⟨d', e1, e2⟩ := at_ m hm
    rw [e2]
    exact hno m d' hmj e1
  · refine ⟨.non, _, I.lset (its' := its.eraseIdx j) (t' := s.toks) hH ho ?_ (vals_erase j r) ?_, rfl, q⟩
    · show its.toArray.eraseIdxIfInBounds j = (its.eraseIdx j).toArray
      rw [List.eraseIdxIfInBounds_toArray]
    · have := List.length_eraseIdx_le ys j
      omega
end K76
set_option Elab.async false
set_option linter.all false
set_option maxRecDepth 100000
set_option maxHeartbeats 4000000
/-! Rules that the layer lacks, third part: tuple(zip(t, u)) and list(zip(t, u)) of two tuples. -/
namespace K76
open PySem PySem.Spec PyProof.Rows L2
section
variable {prog : Program} {w : World} {A : Around} {E : Value → Shared → Prop} {s : Shared}

/-- next of a zip of two tuples whose last tuple is still out -/
theorem zt_item_held {z TI TO T i1 i2 l1 l2 : Addr} {f : Bool} {oT : Obj} {k1 k2 : Nat} {xs ys : Array Value} {x y : Value} {Q : Option Value → Shared → Prop} (D : ZipApart z TI TO i1 i2 l1 l2)
    (hz : IsZipHeld s.heap z TI TO T f) (hT : s.heap.get? T = some oT) (hTI : IsPair s.heap TI (.ref i1) (.ref i2))
    (h1 : s.heap.IsTupleIter i1 l1 k1) (h2 : s.heap.IsTupleIter i2 l2 k2) (hl1 : s.heap.IsTuple l1 xs) (hl2 : s.heap.IsTuple l2 ys) (hx : xs[k1]? = some x) (hy : ys[k2]? = some y)
    (hQ : ∀ h', IsZipHeld h' z TI TO T true → h'.IsTupleIter i1 l1 (k1 + 1) → h'.IsTupleIter i2 l2 (k2 + 1) → IsPair h' s.heap.objs.size x y → h'.objs.size = s.heap.objs.size + 1 →
      (∀ c o, c ≠ z → c ≠ i1 → c ≠ i2 → s.heap.get? c = some o → h'.get? c = some o) → Q (some (.ref s.heap.objs.size)) { s with heap := h' }) :
    wpAny (model prog w) A (pyNext (.ref z)) Q E s := by
  have hTy : s.TypeIs (.ref z) "zip" := ⟨_, hz, rfl⟩
  unfold pyNext
  refine wpAny_bind (wpAny_attempt (wpAny_callSpecial?_slot (name := Str.ofString "__next__") hTy F.slot_zip_next
    (wpAny_call_entry F.slot_zip_next hTy F.entry_zip_next ?_ (F.args_zip_next_1 _))))
  show wpAny _ _ (field (.ref z) 2 >>= _) _ _ _
  refine wpAny_bind (wpAny_field hz rfl (x := .bool false) rfl ?_)
  show wpAny _ _ (field (.ref z) 3 >>= _) _ _ _
  refine wpAny_bind (wpAny_field hz rfl (x := .ref TI) rfl ?_)
  refine wpAny_bind (wpAny_seqItems hTI rfl ?_)
  show wpAny _ _ (Builtin.SmallTypes.ownedTupleIsFree (.ref z) >>= _) _ _ _
  refine wpAny_bind (wpAny_tupleHeld_zip hz hT fun h₁ hz₁ hs₁ => ?_)
  simp only [Bool.false_eq_true, if_false]
  refine wpAny_bind ?_
  rw [← Array.forIn_toList]
  simp only [List.forIn_cons, List.forIn_nil]
  refine wpAny_bind (wpAny_bind (wpAny_holding ?_))
  show wpAny _ _ (Builtin.SmallTypes.nextOf (.ref i1) >>= _) _ _ _
  refine wpAny_bind (RZ.nextOf_tuple_item (s := { s with heap := h₁ }) (h1.extBut hs₁.extBut D.i1z) (hl1.extBut hs₁.extBut D.l1z) hx fun h₂ h1₂ hs₂ => wpAny_pure ?_)
  refine wpAny_pure ?_
  refine wpAny_bind (wpAny_bind (wpAny_holding ?_))
  show wpAny _ _ (Builtin.SmallTypes.nextOf (.ref i2) >>= _) _ _ _
  refine wpAny_bind (RZ.nextOf_tuple_item (s := { s with heap := h₂ }) ((h2.extBut hs₁.extBut D.i2z).extBut hs₂.extBut D.i12.symm) ((hl2.extBut hs₁.extBut D.l2z).extBut hs₂.extBut D.l2i1) hy fun h₃ h2₃ hs₃ => wpAny_pure ?_)
  refine wpAny_pure (wpAny_pure ?_)
  show wpAny _ _ (newTuple [x, y] >>= _) _ _ _
  refine wpAny_bind (wpAny_newTuple ?_)
  have hsz : h₃.objs.size = s.heap.objs.size := by rw [hs₃.1, hs₂.1, hs₁.1]
  have hz₃ : IsZipHeld h₃ z TI TO T true := hs₃.extBut _ _ D.i2z.symm (hs₂.extBut _ _ D.i1z.symm hz₁)
  have hk : ∀ c o, c ≠ z → c ≠ i1 → c ≠ i2 → s.heap.get? c = some o → h₃.get? c = some o := fun c o c1 c2 c3 e => hs₃.extBut _ _ c3 (hs₂.extBut _ _ c2 (hs₁.extBut _ _ c1 e))
  have h1₃ : h₃.IsTupleIter i1 l1 (k1 + 1) := h1₂.extBut hs₃.extBut D.i12
  refine wpAny_pure ⟨_, rfl, wpAny_pure ?_⟩
  show Q (some (.ref h₃.objs.size)) _
  have hp : IsPair (h₃.push { cls := .type "tuple", data := .seq #[x, y] }) h₃.objs.size x y := Heap.get?_push_size _ rfl
  have hz4 : (h₃.push { cls := .type "tuple", data := .seq #[x, y] }).objs.size = h₃.objs.size + 1 := Heap.size_push ..
  rw [hsz] at hp hz4 ⊢
  exact hQ _ (Heap.get?_push_of_some _ hz₃) (h1₃.at fun o e => Heap.get?_push_of_some _ e) (h2₃.at fun o e => Heap.get?_push_of_some _ e) hp hz4 fun c o c1 c2 c3 e => Heap.get?_push_of_some _ (hk c o c1 c2 c3 e)
theorem zt_end_held {z TI TO T i1 i2 l1 l2 : Addr} {f : Bool} {oT : Obj} {k1 k2 : Nat} {xs ys : Array Value} {Q : Option Value → Shared → Prop} (hh : A.handled = none) (D : ZipApart z TI TO i1 i2 l1 l2)
    (hz : IsZipHeld s.heap z TI TO T f) (hT : s.heap.get? T = some oT) (hTI : IsPair s.heap TI (.ref i1) (.ref i2))
    (h1 : s.heap.IsTupleIter i1 l1 k1) (h2 : s.heap.IsTupleIter i2 l2 k2) (hl1 : s.heap.IsTuple l1 xs) (hl2 : s.heap.IsTuple l2 ys) (hend : xs[k1]? = none ∨ ys[k2]? = none)
    (hQ : ∀ h', (∀ c o, c ≠ z → c ≠ i1 → c ≠ i2 → s.heap.get? c = some o → h'.get? c = some o) → Q none { s with heap := h' }) :
    wpAny (model prog w) A (pyNext (.ref z)) Q E s := by
  have hTy : s.TypeIs (.ref z) "zip" := ⟨_, hz, rfl⟩
  have fin : ∀ (h' : Heap) (e : Addr), (∀ c o, c ≠ z → c ≠ i1 → c ≠ i2 → s.heap.get? c = some o → h'.get? c = some o) → (∃ o, h'.get? e = some o ∧ o.cls = .type "StopIteration") →
      wpAny (model prog w) A (do if ← isInstance (.ref e) (.type "StopIteration") then pure none else throw (.ref e)) Q E { s with heap := h' } := fun h' e hk he => by
    obtain ⟨o, ho, hc⟩ := he
    refine wpAny_bind (wpAny_isInstance (T := "StopIteration") (b := true) ⟨o, ho, hc⟩ isSubtype_stop ?_)
    exact wpAny_pure (hQ _ hk)
  unfold pyNext
  refine wpAny_bind (wpAny_attempt (wpAny_callSpecial?_slot (name := Str.ofString "__next__") hTy F.slot_zip_next
    (wpAny_call_entry F.slot_zip_next hTy F.entry_zip_next ?_ (F.args_zip_next_1 _))))
  show wpAny _ _ (field (.ref z) 2 >>= _) _ _ _
  refine wpAny_bind (wpAny_field hz rfl (x := .bool false) rfl ?_)
  show wpAny _ _ (field (.ref z) 3 >>= _) _ _ _
  refine wpAny_bind (wpAny_field hz rfl (x := .ref TI) rfl ?_)
  refine wpAny_bind (wpAny_seqItems hTI rfl ?_)
  show wpAny _ _ (Builtin.SmallTypes.ownedTupleIsFree (.ref z) >>= _) _ _ _
  refine wpAny_bind (wpAny_tupleHeld_zip hz hT fun h₁ hz₁ hs₁ => ?_)
  simp only [Bool.false_eq_true, if_false]
  refine wpAny_bind ?_
  rw [← Array.forIn_toList]
  simp only [List.forIn_cons, List.forIn_nil]
  refine wpAny_bind (wpAny_bind (wpAny_holding ?_))
  show wpAny _ _ (Builtin.SmallTypes.nextOf (.ref i1) >>= _) _ _ _
  cases hx : xs[k1]? with
  | none =>
    refine wpAny_bind (RZ.nextOf_tuple_end (s := { s with heap := h₁ }) hh (h1.extBut hs₁.extBut D.i1z) (hl1.extBut hs₁.extBut D.l1z) hx fun h₂ e hs₂ he => ?_)
    exact fin h₂ e (fun c o c1 c2 _ x => hs₂ _ _ c2 (hs₁.extBut _ _ c1 x)) he
  | some x =>
    have hy : ys[k2]? = none := by
      rcases hend with h | h
      · rw [hx] at h; cases h
      · exact h
    refine wpAny_bind (RZ.nextOf_tuple_item (s := { s with heap := h₁ }) (h1.extBut hs₁.extBut D.i1z) (hl1.extBut hs₁.extBut D.l1z) hx fun h₂ h1₂ hs₂ => wpAny_pure ?_)
    refine wpAny_pure ?_
    refine wpAny_bind (wpAny_bind (wpAny_holding ?_))
    show wpAny _ _ (Builtin.SmallTypes.nextOf (.ref i2) >>= _) _ _ _
    refine wpAny_bind (RZ.nextOf_tuple_end (s := { s with heap := h₂ }) hh ((h2.extBut hs₁.extBut D.i2z).extBut hs₂.extBut D.i12.symm) ((hl2.extBut hs₁.extBut D.l2z).extBut hs₂.extBut D.l2i1) hy fun h₃ e hs₃ he => ?_)
    exact fin h₃ e (fun c o c1 c2 c3 x => hs₃ _ _ c3 (hs₂.extBut _ _ c2 (hs₁.extBut _ _ c1 x))) he

/-- a zip of two tuples at turn i, its last tuple kept (if there was one) -/
def ZSt (h : Heap) (z TI TO i1 i2 l1 l2 S : Addr) (xs ys : Array Value) (i : Nat) : Prop :=
  IsPair h TI (.ref i1) (.ref i2) ∧ h.IsTupleIter i1 l1 i ∧ h.IsTupleIter i2 l2 i ∧ h.IsTuple l1 xs ∧ h.IsTuple l2 ys ∧
  ((IsZip h z TI TO .none ∧ ∃ a b, IsPair h TO a b) ∨ ∃ (T : Addr) (f : Bool) (oT : Obj), IsZipHeld h z TI TO T f ∧ h.get? T = some oT ∧ T ≠ z ∧ T ≠ i1 ∧ T ≠ i2 ∧ T ≠ S)
theorem zt_item {z TI TO i1 i2 l1 l2 S : Addr} {i : Nat} {xs ys : Array Value} {x y : Value} {Q : Option Value → Shared → Prop} (D : ZipApart z TI TO i1 i2 l1 l2) (st : ZSt s.heap z TI TO i1 i2 l1 l2 S xs ys i)
    (hS : S < s.heap.objs.size) (hx : xs[i]? = some x) (hy : ys[i]? = some y)
    (hQ : ∀ h', ZSt h' z TI TO i1 i2 l1 l2 S xs ys (i + 1) → IsPair h' s.heap.objs.size x y → h'.objs.size = s.heap.objs.size + 1 →
      (∀ c o, c ≠ z → c ≠ TO → c ≠ i1 → c ≠ i2 → s.heap.get? c = some o → h'.get? c = some o) → Q (some (.ref s.heap.objs.size)) { s with heap := h' }) :
    wpAny (model prog w) A (pyNext (.ref z)) Q E s := by
  obtain ⟨hTI, h1, h2, hl1, hl2, hz⟩ := st
  have n1 : s.heap.objs.size ≠ i1 := by obtain ⟨_, e, _⟩ := h1; exact Nat.ne_of_gt (Heap.lt_size e)
  have n2 : s.heap.objs.size ≠ i2 := by obtain ⟨_, e, _⟩ := h2; exact Nat.ne_of_gt (Heap.lt_size e)
  rcases hz with ⟨hz, a, b, hTO⟩ | ⟨T, f, oT, hz, hT, t1, t2, t3, t4⟩
  · refine RZ.pyNext_zipT_item D hz hTI hTO h1 h2 hl1 hl2 hx hy fun h' a1 a2 a3 a4 a5 a6 hk => hQ h' ⟨hk _ _ D.TIz D.TITO D.TIi1 D.TIi2 hTI, a3, a4, hl1.at fun o e => hk _ o D.l1z D.l1TO D.l1i1 D.l1i2 e,
      hl2.at fun o e => hk _ o D.l2z D.l2TO D.l2i1 D.l2i2 e, .inr ⟨_, false, _, a1, a5, Nat.ne_of_gt (Heap.lt_size hz), n1, n2, Nat.ne_of_gt hS⟩⟩ a5 a6 hk
  · refine zt_item_held D hz hT hTI h1 h2 hl1 hl2 hx hy fun h' a1 a3 a4 a5 a6 hk => hQ h' ⟨hk _ _ D.TIz D.TIi1 D.TIi2 hTI, a3, a4, hl1.at fun o e => hk _ o D.l1z D.l1i1 D.l1i2 e,
      hl2.at fun o e => hk _ o D.l2z D.l2i1 D.l2i2 e, .inr ⟨T, true, oT, a1, hk _ _ t1 t2 t3 hT, t1, t2, t3, t4⟩⟩ a5 a6 fun c o c1 _ c3 c4 e => hk c o c1 c3 c4 e
theorem zt_done {z TI TO i1 i2 l1 l2 S : Addr} {i : Nat} {xs ys : Array Value} {Q : Option Value → Shared → Prop} (hh : A.handled = none) (D : ZipApart z TI TO i1 i2 l1 l2) (st : ZSt s.heap z TI TO i1 i2 l1 l2 S xs ys i)
    (hend : xs[i]? = none ∨ ys[i]? = none)
    (hQ : ∀ h', (∀ c o, c ≠ z → c ≠ TO → c ≠ i1 → c ≠ i2 → s.heap.get? c = some o → h'.get? c = some o) → Q none { s with heap := h' }) :
    wpAny (model prog w) A (pyNext (.ref z)) Q E s := by
  obtain ⟨hTI, h1, h2, hl1, hl2, hz⟩ := st
  rcases hz with ⟨hz, a, b, hTO⟩ | ⟨T, f, oT, hz, hT, t1, t2, t3, t4⟩
  · exact RZ.pyNext_zipT_end hh D hz hTI hTO h1 h2 hl1 hl2 hend hQ
  · exact zt_end_held hh D hz hT hTI h1 h2 hl1 hl2 hend fun h' hk => hQ h' fun c o c1 _ c3 c4 e => hk c o c1 c3 c4 e
/-- another object may change, or one be laid -/
theorem ZSt.up {z TI TO i1 i2 l1 l2 S : Addr} {i : Nat} {xs ys : Array Value} {h h' : Heap} (st : ZSt h z TI TO i1 i2 l1 l2 S xs ys i) (hk : ∀ b o, b ≠ S → h.get? b = some o → h'.get? b = some o)
    (n : S ≠ z ∧ S ≠ TI ∧ S ≠ TO ∧ S ≠ i1 ∧ S ≠ i2 ∧ S ≠ l1 ∧ S ≠ l2) : ZSt h' z TI TO i1 i2 l1 l2 S xs ys i := by
  obtain ⟨n1, n2, n3, n4, n5, n6, n7⟩ := n
  obtain ⟨hTI, h1, h2, hl1, hl2, hz⟩ := st
  refine ⟨hk _ _ n2.symm hTI, h1.at fun o e => hk _ o n4.symm e, h2.at fun o e => hk _ o n5.symm e, hl1.at fun o e => hk _ o n6.symm e, hl2.at fun o e => hk _ o n7.symm e, ?_⟩
  rcases hz with ⟨hz, a, b, hTO⟩ | ⟨T, f, oT, hz, hT, t1, t2, t3, t4⟩
  · exact .inl ⟨hk _ _ n1.symm hz, a, b, hk _ _ n3.symm hTO⟩
  · exact .inr ⟨T, f, oT, hk _ _ n1.symm hz, hk _ _ t4 hT, t1, t2, t3, t4⟩

/-- the pairs at their addresses, which rise from lo -/
structure Prs (xs ys : Array Value) (lo : Addr) (h : Heap) (as : List Addr) : Prop where
  rise : as.Pairwise (· < ·)
  above : ∀ a ∈ as, lo ≤ a
  at_ : ∀ (j : Nat) (a : Addr), as[j]? = some a → ∃ x y, xs[j]? = some x ∧ ys[j]? = some y ∧ IsPair h a x y
theorem Prs.lt {xs ys : Array Value} {lo : Addr} {h : Heap} {as : List Addr} (g : Prs xs ys lo h as) {a : Addr} (ha : a ∈ as) : a < h.objs.size := by
  obtain ⟨j, hj⟩ := List.mem_iff_getElem?.mp ha
  obtain ⟨_, _, _, _, e⟩ := g.at_ j a hj
  exact Heap.lt_size e
/-- the gathering loop over a zip -/
theorem zt_loop {z TI TO i1 i2 l1 l2 S : Addr} {xs ys : Array Value} {R : Result → Shared → Prop} (hh : A.handled = none) (D : ZipApart z TI TO i1 i2 l1 l2) (n : S ≠ z ∧ S ≠ TI ∧ S ≠ TO ∧ S ≠ i1 ∧ S ≠ i2 ∧ S ≠ l1 ∧ S ≠ l2)
    (hn : min xs.size ys.size ≤ sizeLine) (res : Value) {h₁ : Heap} {lo : Addr} (hlo : S < lo ∧ z < lo ∧ TO < lo ∧ i1 < lo ∧ i2 < lo)
    (hR : ∀ h' tk acc c as, (∀ b o, b ≠ S → b ≠ z → b ≠ TO → b ≠ i1 → b ≠ i2 → h₁.get? b = some o → h'.get? b = some o) → h'.get? S = some { cls := .type "list", dict := none, data := .seq acc c, slots := #[] } →
      as.length = min xs.size ys.size → Prs xs ys lo h' as → acc.toList = as.map Value.ref → R (.ok (.ret res)) { s with heap := h', toks := tk }) :
    ∀ (k i : Nat) (h : Heap) (tk c : Nat) (acc : Array Value) (as : List Addr), min xs.size ys.size - i = k → i ≤ min xs.size ys.size → ZSt h z TI TO i1 i2 l1 l2 S xs ys i →
      (∀ b o, b ≠ S → b ≠ z → b ≠ TO → b ≠ i1 → b ≠ i2 → h₁.get? b = some o → h.get? b = some o) →
      h.get? S = some { cls := .type "list", dict := none, data := .seq acc c, slots := #[] } → acc.toList = as.map Value.ref → as.length = i → Prs xs ys lo h as → lo ≤ h.objs.size →
      codeAny (model prog w) A (.builtin "list.extend.loop" ⟨[.ref S, .ref z, res], []⟩) R { s with heap := h, toks := tk } := by
  obtain ⟨q1, q2, q3, q4, q5⟩ := hlo
  have hi : ∀ a, lo ≤ a → a ≠ S ∧ a ≠ z ∧ a ≠ TO ∧ a ≠ i1 ∧ a ≠ i2 := fun a h => ⟨Nat.ne_of_gt (Nat.lt_of_lt_of_le q1 h), Nat.ne_of_gt (Nat.lt_of_lt_of_le q2 h), Nat.ne_of_gt (Nat.lt_of_lt_of_le q3 h), Nat.ne_of_gt (Nat.lt_of_lt_of_le q4 h), Nat.ne_of_gt (Nat.lt_of_lt_of_le q5 h)⟩
  intro k
  induction k with
  | zero =>
    intro i h tk c acc as hk hi' hst hkeep hS hacc hal hG hIs
    have hin : i = min xs.size ys.size := by omega
    refine codeAny_builtin F.entry_extend_loop ?_
    rw [Around.under_plainId F.plain_extend_loop _]
    show wpAny _ A.in1 (pyNext (.ref z) >>= _) _ _ _
    have hend : xs[i]? = none ∨ ys[i]? = none := by
      rcases Nat.le_total xs.size ys.size with c | c
      · exact .inl (Array.getElem?_eq_none (by rw [hin, Nat.min_eq_left c]; exact Nat.le_refl _))
      · exact .inr (Array.getElem?_eq_none (by rw [hin, Nat.min_eq_right c]; exact Nat.le_refl _))
    refine wpAny_bind (zt_done (s := { s with heap := h, toks := tk }) (A := A.in1) hh D hst hend fun h' hk' => ?_)
    refine wpAny_pure (hR h' tk acc c as (fun b o b1 b2 b3 b4 b5 e => hk' b o b2 b3 b4 b5 (hkeep b o b1 b2 b3 b4 b5 e)) (hk' S _ n.1 n.2.2.1 n.2.2.2.1 n.2.2.2.2.1 hS) (by omega) ⟨hG.rise, hG.above, fun j a hj => ?_⟩ hacc)
    obtain ⟨x, y, e1, e2, e3⟩ := hG.at_ j a hj
    obtain ⟨_, m2, m3, m4, m5⟩ := hi a (hG.above a (List.mem_of_getElem? hj))
    exact ⟨x, y, e1, e2, hk' a _ m2 m3 m4 m5 e3⟩
  | succ k ih =>
    intro i h tk c acc as hk hi' hst hkeep hS hacc hal hG hIs
    have hlt : i < min xs.size ys.size := by omega
    have hx : xs[i]? = some xs[i] := Array.getElem?_eq_getElem (Nat.lt_of_lt_of_le hlt (Nat.min_le_left ..))
    have hy : ys[i]? = some ys[i] := Array.getElem?_eq_getElem (Nat.lt_of_lt_of_le hlt (Nat.min_le_right ..))
    have hsz : acc.size = i := by rw [← Array.length_toList, hacc, List.length_map, hal]
    refine codeAny_builtin F.entry_extend_loop ?_
    rw [Around.under_plainId F.plain_extend_loop _]
    show wpAny _ A.in1 (pyNext (.ref z) >>= _) _ _ _
    refine wpAny_bind (zt_item (s := { s with heap := h, toks := tk }) D hst (Heap.lt_size hS) hx hy fun h' hst' ht hz hkp => ?_)
    dsimp only at ht hz hkp ⊢
    have hS' := hkp S _ n.1 n.2.2.1 n.2.2.2.1 n.2.2.2.2.1 hS
    have up : ∀ b o, b ≠ S → h'.get? b = some o → (h'.update S (Obj.mapSeq (·.push (Value.ref h.objs.size)))).get? b = some o := fun b o hb e => (Heap.get?_update_other _ _ (Ne.symm hb)).trans e
    have hnew := up _ _ (hi _ hIs).1 ht
    show wpAny _ A.in1 (updateSeq S (·.push (Value.ref h.objs.size)) >>= _) _ _ _
    refine wpAny_bind ?_
    refine wpAny_updateSeq hS' rfl (wpAny_pure ⟨plainId_quiet F.plain_extend_loop _, ih (i + 1) _ tk _ (acc.push (Value.ref h.objs.size)) (as ++ [h.objs.size]) (by omega) hlt (hst'.up up n)
      (fun b o b1 b2 b3 b4 b5 e => up b o b1 (hkp b o b2 b3 b4 b5 (hkeep b o b1 b2 b3 b4 b5 e))) (Heap.get?_update_self _ hS' rfl) (by rw [Array.toList_push, hacc, List.map_append]; rfl) (by rw [List.length_append, hal]; rfl) ⟨?_, ?_, ?_⟩ ?_⟩) (by rw [hsz]; omega) (by show (acc.push (Value.ref h.objs.size)).size ≤ sizeLine + 1; rw [Array.size_push, hsz]; omega)
    · refine List.pairwise_append.mpr ⟨hG.rise, List.pairwise_singleton _ _, fun a ha b hb => ?_⟩
      rw [List.mem_singleton.mp hb]
      exact hG.lt ha
    · intro a ha
      rcases List.mem_append.mp ha with ha | ha
      · exact hG.above a ha
      · rw [List.mem_singleton.mp ha]; exact hIs
    · intro j b hj
      rcases Nat.lt_trichotomy j as.length with c1 | c1 | c1
      · rw [List.getElem?_append_left c1] at hj
        obtain ⟨x, y, e1, e2, e3⟩ := hG.at_ j b hj
        obtain ⟨m1, m2, m3, m4, m5⟩ := hi b (hG.above b (List.mem_of_getElem? hj))
        exact ⟨x, y, e1, e2, up b _ m1 (hkp b _ m2 m3 m4 m5 e3)⟩
      · subst c1
        have hb : h.objs.size = b := by simpa using hj
        subst hb
        rw [hal]
        exact ⟨_, _, hx, hy, hnew⟩
      · have hnone : (as ++ [h.objs.size])[j]? = none := List.getElem?_eq_none (by rw [List.length_append, List.length_singleton]; omega)
        rw [hnone] at hj
        cases hj
    · exact Nat.le_of_lt (Nat.lt_of_le_of_lt hIs (Heap.lt_size hnew))
end

namespace ZF
theorem nolen : typeLookup (.type "zip") "__len__" = pure none := am_miss_of_fast (by decide +kernel)
theorem nohint : typeLookup (.type "zip") "__length_hint__" = pure none := am_miss_of_fast (by decide +kernel)
end ZF
section
variable {prog : Program} {w : World} {A : Around} {E : Value → Shared → Prop} {s : Shared}
/-- a zip of two tuples as it was made, at the state s -/
structure ZNew (h : Heap) (z TI TO i1 i2 l1 l2 : Addr) (xs ys : Array Value) : Prop where
  D : ZipApart z TI TO i1 i2 l1 l2
  st : ZSt h z TI TO i1 i2 l1 l2 h.objs.size xs ys 0
  lt : z < h.objs.size ∧ TI < h.objs.size ∧ TO < h.objs.size ∧ i1 < h.objs.size ∧ i2 < h.objs.size ∧ l1 < h.objs.size ∧ l2 < h.objs.size
theorem zt_extend {z TI TO i1 i2 l1 l2 S : Addr} {xs ys : Array Value} {R : Result → Shared → Prop} (hh : A.handled = none) (D : ZipApart z TI TO i1 i2 l1 l2) (n : S ≠ z ∧ S ≠ TI ∧ S ≠ TO ∧ S ≠ i1 ∧ S ≠ i2 ∧ S ≠ l1 ∧ S ≠ l2)
    (hn : min xs.size ys.size ≤ sizeLine) (res : Value) (st : ZSt s.heap z TI TO i1 i2 l1 l2 S xs ys 0) (hz : ∃ oz, s.heap.get? z = some oz ∧ oz.cls = .type "zip") (c₀ : Nat) (hS : s.heap.get? S = some { cls := .type "list", data := .seq #[] c₀ })
    (hlt : z < s.heap.objs.size ∧ TO < s.heap.objs.size ∧ i1 < s.heap.objs.size ∧ i2 < s.heap.objs.size)
    (hR : ∀ h' tk acc c as, (∀ b o, b ≠ S → b ≠ z → b ≠ TO → b ≠ i1 → b ≠ i2 → s.heap.get? b = some o → h'.get? b = some o) → h'.get? S = some { cls := .type "list", dict := none, data := .seq acc c, slots := #[] } →
      as.length = min xs.size ys.size → Prs xs ys s.heap.objs.size h' as → acc.toList = as.map Value.ref → R (.ok (.ret res)) { s with heap := h', toks := tk }) :
    wpAny (model prog w) A.in1 (Builtin.List.listExtendWith (.ref S) (.ref z) res)
      (fun fin s' => match fin with | .done f => R (.ok f) s' | .again c' => c'.quiet = true ∧ codeAny (model prog w) A c' R s') (fun e s' => R (.error e) s') s := by
  obtain ⟨oz, hoz, hcz⟩ := hz
  have hT : s.TypeIs (.ref z) "zip" := ⟨oz, hoz, hcz⟩
  have hSl : S < s.heap.objs.size := Heap.lt_size hS
  have key : ∀ (h : Heap) (c₁ : Nat), (∀ b o, b ≠ S → s.heap.get? b = some o → h.get? b = some o) → s.heap.objs.size ≤ h.objs.size →
      h.get? S = some { cls := .type "list", data := .seq #[] c₁ } → codeAny (model prog w) A (.builtin "list.extend.loop" ⟨[.ref S, .ref z, res], []⟩) R { s with heap := h } := by
    intro h c₁ hk hle hS₁
    exact zt_loop (s := s) (h₁ := s.heap) (lo := s.heap.objs.size) hh D n hn res ⟨hSl, hlt.1, hlt.2.1, hlt.2.2.1, hlt.2.2.2⟩ hR _ 0 h s.toks c₁ #[] [] rfl (Nat.zero_le _) (st.up hk n)
      (fun b o b1 _ _ _ _ e => hk b o b1 e) hS₁ rfl rfl ⟨List.Pairwise.nil, (fun _ ha => nomatch ha), (fun j a hj => by simp at hj)⟩ hle
  unfold Builtin.List.listExtendWith
  refine wpAny_bind (wpAny_typeOf hT ?_)
  have h1 : Builtin.List.listSameRef (.ref S) (.ref z) = false := by simp [Builtin.List.listSameRef, n.1]
  have h2 : (Value.type "zip" == Value.type "list") = false := by decide
  have h3 : (Value.type "zip" == Value.type "tuple") = false := by decide
  simp only [h1, h2, h3, Bool.or_false, Bool.false_eq_true, if_false]
  have iter : ∀ {Q : Value → Shared → Prop} {E' : Value → Shared → Prop}, Q (.ref z) s → wpAny (model prog w) A.in1 (pyIter (.ref z)) Q E' s := fun {Q E'} q => by
    refine wpAny_pyIter_slot hT F.slot_zip_iter (wpAny_call_entry F.slot_zip_iter hT F.entry_zip_iter ?_ (F.args_zip_iter_1 _))
    show wpAny _ _ (ret (.ref z)) _ _ s
    exact wpAny_pure ⟨_, rfl, "zip", _, hT, F.slot_zip_next.lookup, q⟩
  refine wpAny_bind (iter ?_)
  refine wpAny_bind (wpAny_holding ?_)
  unfold Builtin.List.listLengthHint
  refine wpAny_bind (wpAny_specialOf hT ZF.nolen ?_)
  show wpAny _ A.in1 (specialOf (Value.ref z) (Str.ofString "__length_hint__") >>= _) _ _ _
  refine wpAny_bind (wpAny_specialOf hT ZF.nohint ?_)
  refine wpAny_pure ?_
  first
    | exact wpAny_pure ⟨plainId_quiet F.plain_extend_loop _, key s.heap c₀ (fun _ _ _ e => e) (Nat.le_refl _) hS⟩
    | (refine wpAny_ite_split (fun _ => ?_) (fun _ => wpAny_pure ⟨plainId_quiet F.plain_extend_loop _, key s.heap c₀ (fun _ _ _ e => e) (Nat.le_refl _) hS⟩)
       refine wpAny_bind (wpAny_rule ?_)
       refine wpAny_bind ?_
       show wpAny _ _ (updateSeq S (·.push .none) >>= fun _ => updateSeq S (·.pop)) _ _ _
       refine wpAny_bind (wpAny_updateSeq hS rfl ?_)
       have hS₂ := Heap.get?_update_self (Obj.mapSeq (·.push Value.none)) hS rfl
       refine wpAny_updateSeq (hz := by seq_fits) hS₂ rfl ?_
       have hS₃ := Heap.get?_update_self (Obj.mapSeq (·.pop)) hS₂ rfl
       refine wpAny_pure ⟨plainId_quiet F.plain_extend_loop _, key _ _ (fun b o hb e => ?_) ?_ hS₃⟩
       · exact (Heap.get?_update_other _ _ (Ne.symm hb)).trans ((Heap.get?_update_other _ _ (Ne.symm hb)).trans e)
       · rw [Heap.size_update, Heap.size_update]; exact Nat.le_refl _)
theorem ZNew.apart {h : Heap} {z TI TO i1 i2 l1 l2 : Addr} {xs ys : Array Value} (Z : ZNew h z TI TO i1 i2 l1 l2 xs ys) : h.objs.size ≠ z ∧ h.objs.size ≠ TI ∧ h.objs.size ≠ TO ∧ h.objs.size ≠ i1 ∧ h.objs.size ≠ i2 ∧ h.objs.size ≠ l1 ∧ h.objs.size ≠ l2 := by
  obtain ⟨a, b, c, d, e, f, g⟩ := Z.lt
  exact ⟨Nat.ne_of_gt a, Nat.ne_of_gt b, Nat.ne_of_gt c, Nat.ne_of_gt d, Nat.ne_of_gt e, Nat.ne_of_gt f, Nat.ne_of_gt g⟩
theorem ZNew.cls {h : Heap} {z TI TO i1 i2 l1 l2 : Addr} {xs ys : Array Value} (Z : ZNew h z TI TO i1 i2 l1 l2 xs ys) : ∃ oz, h.get? z = some oz ∧ oz.cls = .type "zip" := by
  obtain ⟨_, _, _, _, _, hz⟩ := Z.st
  rcases hz with ⟨hz, _⟩ | ⟨T, f, oT, hz, _⟩
  · exact ⟨_, hz, rfl⟩
  · exact ⟨_, hz, rfl⟩
/-- the pairs gathered into a new list S -/
theorem zt_collect {z TI TO i1 i2 l1 l2 : Addr} {xs ys : Array Value} {Q : List Value → Shared → Prop} (hh : A.handled = none) (Z : ZNew s.heap z TI TO i1 i2 l1 l2 xs ys) (hn : min xs.size ys.size ≤ sizeLine)
    (h : ∀ h' tk as, (∀ b o, b ≠ z → b ≠ TO → b ≠ i1 → b ≠ i2 → s.heap.get? b = some o → h'.get? b = some o) → as.length = min xs.size ys.size → Prs xs ys (s.heap.objs.size + 1) h' as → s.heap.objs.size < h'.objs.size → Q (as.map Value.ref) { s with heap := h', toks := tk }) :
    wpAny (model prog w) A (collect (.ref z)) Q E s := by
  have np := Z.apart
  obtain ⟨oz, hoz, hcz⟩ := Z.cls
  unfold collect
  refine wpAny_bind (wpAny_runValue (codeAny_builtin F.entry_proto_collect ?_))
  rw [Around.under_plainId F.plain_proto_collect _]
  show wpAny _ A.in1 (newList [] >>= fun l => again (.builtin "list.__iadd__" ⟨[l, .ref z], []⟩)) _ _ s
  refine wpAny_bind (wpAny_newObj_type ?_)
  refine wpAny_pure ⟨plainId_quiet F.plain_list_iadd _, codeAny_builtin F.entry_list_iadd ?_⟩
  rw [Around.under_plainId F.plain_list_iadd _]
  have hS₁ : (s.heap.push { cls := .type "list", data := .seq ([] : List Value).toArray }).get? s.heap.objs.size = some { cls := .type "list", data := .seq #[] } := Heap.get?_push_size _ rfl
  have up : ∀ b o, s.heap.get? b = some o → (s.heap.push { cls := .type "list", data := .seq ([] : List Value).toArray }).get? b = some o := fun b o e => Heap.get?_push_of_some _ e
  have z1 : (s.heap.push { cls := .type "list", data := .seq ([] : List Value).toArray }).objs.size = s.heap.objs.size + 1 := Heap.size_push ..
  obtain ⟨q1, q2, q3, q4, q5, _⟩ := Z.lt
  show wpAny _ A.in1 (Builtin.List.listExtendWith (.ref s.heap.objs.size) (.ref z) (.ref s.heap.objs.size)) _ _ _
  have key := zt_extend (prog := prog) (w := w) (A := A) (s := { s with heap := s.heap.push { cls := .type "list", data := .seq ([] : List Value).toArray } })
    (R := fun (q : Result) (s' : Shared) => ∃ (h' : Heap) (tk : Nat) (acc' : Array Value) (c' : Nat) (as : List Addr), q = .ok (.ret (.ref s.heap.objs.size)) ∧ s' = { s with heap := h', toks := tk } ∧
      (∀ b o, b ≠ z → b ≠ TO → b ≠ i1 → b ≠ i2 → s.heap.get? b = some o → h'.get? b = some o) ∧ h'.get? s.heap.objs.size = some { cls := .type "list", dict := none, data := .seq acc' c', slots := #[] } ∧
      as.length = min xs.size ys.size ∧ Prs xs ys (s.heap.objs.size + 1) h' as ∧ acc'.toList = as.map Value.ref)
    hh Z.D np hn (.ref s.heap.objs.size) (Z.st.up (fun b o _ e => up b o e) np) ⟨oz, up _ _ hoz, hcz⟩ 0 hS₁
    ⟨by rw [z1]; exact Nat.lt_succ_of_lt q1, by rw [z1]; exact Nat.lt_succ_of_lt q3, by rw [z1]; exact Nat.lt_succ_of_lt q4, by rw [z1]; exact Nat.lt_succ_of_lt q5⟩
    (fun h' tk acc' c' as hk hS' hl hG hacc => ⟨h', tk, acc', c', as, rfl, rfl, fun b o b2 b3 b4 b5 e => hk b o (Nat.ne_of_lt (Heap.lt_size e)) b2 b3 b4 b5 (up _ _ e), hS', hl, by rw [← z1]; exact hG, hacc⟩)
  refine wpAny_mono key (fun fin s' x => ?_) fun e s' x => ?_
  · cases fin with
    | done f =>
      obtain ⟨h', tk, acc', c', as, e, rfl, hk, hS', hl, hG, hacc⟩ := x
      cases e
      show wpAny _ A (load s.heap.objs.size >>= _) _ _ _
      refine wpAny_bind (wpAny_load hS' ?_)
      refine wpAny_pure ?_
      show Q acc'.toList _
      rw [hacc]
      exact h h' tk as hk hl hG (Heap.lt_size hS')
    | again c₁ =>
      refine ⟨x.1, codeAny_mono x.2 fun q s₂ y => ?_⟩
      obtain ⟨h', tk, acc', c', as, rfl, rfl, hk, hS', hl, hG, hacc⟩ := y
      show wpAny _ A (load s.heap.objs.size >>= _) _ _ _
      refine wpAny_bind (wpAny_load hS' ?_)
      refine wpAny_pure ?_
      show Q acc'.toList _
      rw [hacc]
      exact h h' tk as hk hl hG (Heap.lt_size hS')
  · obtain ⟨_, _, _, _, _, e', _⟩ := x
    cases e'
/-- tuple(zip) -/
theorem zt_tuple {z TI TO i1 i2 l1 l2 : Addr} {xs ys : Array Value} {Q : Value → Shared → Prop} (hh : A.handled = none) (Z : ZNew s.heap z TI TO i1 i2 l1 l2 xs ys) (hn : min xs.size ys.size ≤ sizeLine)
    (hQ : ∀ h' tk as, (∀ b o, b ≠ z → b ≠ TO → b ≠ i1 → b ≠ i2 → s.heap.get? b = some o → h'.get? b = some o) → as.length = min xs.size ys.size → Prs xs ys (s.heap.objs.size + 1) h' as → s.heap.objs.size ≤ h'.objs.size →
      Q (.ref h'.objs.size) { s with heap := h'.push { cls := .type "tuple", data := .seq (as.map Value.ref).toArray }, toks := tk }) :
    wpAny (model prog w) A (call (.type "tuple") [.ref z]) Q E s := by
  obtain ⟨oz, hoz, hcz⟩ := Z.cls
  have hT : s.TypeIs (.ref z) "zip" := ⟨oz, hoz, hcz⟩
  have new : ∀ {A' : Around}, A'.handled = none → codeAny (model prog w) A' (.call (.builtin "tuple.__new__") ⟨[.type "tuple", .ref z], []⟩) (wants (fun obj s₁ => s₁.TypeIs obj "tuple" ∧ Q obj s₁) E) s := fun {A'} hA => by
    refine codeAny_of_tree ?_
    show wpAny _ A'.in1 (do checkBuiltinCall "tuple.__new__" ⟨[.type "tuple", .ref z], []⟩; again (.builtin "tuple.__new__" ⟨[.type "tuple", .ref z], []⟩)) _ _ s
    refine wpAny_bind (wpAny_of_eq (F.newCall_tuple_1 _) (wpAny_pure ⟨plainId_quiet F.plain_tuple_new _, codeAny_builtin F.entry_tuple_new ?_⟩))
    rw [Around.under_plainId F.plain_tuple_new _]
    have hsub := sub_tuple_self
    have hinit := init_tuple_lookup
    have hmh := madeHere_tuple
    have hA1 : A'.in1.handled = none := hA
    wp_walk using wpAny_typeOf hT, zt_collect (A := A'.in1) hA1 Z hn
    intro h' tk as hk hl hG hle
    show wpAny _ _ (Builtin.Tuple.tupleExact (as.map Value.ref).toArray >>= fun v => ret v) _ _ _
    unfold Builtin.Tuple.tupleExact
    refine wpAny_bind (wpAny_newObj_type ?_ (by show (as.map Value.ref).toArray.size ≤ sizeLine; rw [List.size_toArray, List.length_map, hl]; exact hn))
    refine wpAny_pure ?_
    exact ⟨⟨_, Heap.get?_push_size _ rfl, rfl⟩, hQ h' tk as hk hl hG (Nat.le_of_lt hle)⟩
  refine callType_codes (Q₁ := fun obj s₁ => s₁.TypeIs obj "tuple" ∧ Q obj s₁) F.called_tuple (F.typeCall_tuple_1 _) F.entry_object_init (new (A' := A.in1) hh) fun obj s₁ h₁ => ?_
  exact ⟨h₁.1, F.args_object_init_2 obj _, object_init_meets F.called_tuple.init.lookup F.called_tuple.made (by decide) prog w A.in1 _ s₁ ⟨h₁.1, rfl, h₁.2⟩⟩
end
end K76
set_option maxHeartbeats 200000
set_option Elab.async false
set_option linter.all false
set_option maxRecDepth 100000
set_option maxHeartbeats 4000000
/-! Rules that the layer lacks, third part, its end: tuple(zip(t, u)) and list(zip(t, u)) over the abstract heap. -/
namespace K76
open PySem PySem.Spec PyProof.Rows L2
section
variable {prog : Program} {w : World} {A : Around} {E : Value → Shared → Prop} {s : Shared}
/-- list(zip) -/
theorem zt_list {z TI TO i1 i2 l1 l2 : Addr} {xs ys : Array Value} {Q : Value → Shared → Prop} (hh : A.handled = none) (Z : ZNew s.heap z TI TO i1 i2 l1 l2 xs ys) (hn : min xs.size ys.size ≤ sizeLine)
    (hQ : ∀ h' tk acc c as, (∀ b o, b ≠ z → b ≠ TO → b ≠ i1 → b ≠ i2 → s.heap.get? b = some o → h'.get? b = some o) → h'.get? s.heap.objs.size = some { cls := .type "list", dict := none, data := .seq acc c, slots := #[] } →
      as.length = min xs.size ys.size → Prs xs ys (s.heap.objs.size + 1) h' as → acc.toList = as.map Value.ref → Q (.ref s.heap.objs.size) { s with heap := h', toks := tk }) :
    wpAny (model prog w) A (call (.type "list") [.ref z]) Q E s := by
  have np := Z.apart
  obtain ⟨oz, hoz, hcz⟩ := Z.cls
  refine callType_codes (Q₁ := fun obj s₁ => obj = .ref s.heap.objs.size ∧ s₁ = { s with heap := s.heap.push { cls := .type "list", data := .seq #[] } }) F.called_list (F.typeCall_list_1 _) F.entry_list_init
    (code_list_new _ ⟨rfl, rfl⟩) fun obj s₁ h₁ => ?_
  obtain ⟨rfl, rfl⟩ := h₁
  have hS : (s.heap.push { cls := .type "list", data := .seq #[] }).get? s.heap.objs.size = some { cls := .type "list", data := .seq #[] } := Heap.get?_push_size _ rfl
  refine ⟨⟨_, hS, rfl⟩, F.args_list_init_2 _ _, ?_⟩
  show wpAny _ _ (do let old ← Builtin.List.listItems (.ref s.heap.objs.size); Builtin.List.listUpdate (.ref s.heap.objs.size) (fun _ => #[]); letGo old.toList.reverse; Builtin.List.listExtendWith (.ref s.heap.objs.size) (.ref z) .none) _ _ _
  refine wpAny_bind ?_
  unfold Builtin.List.listItems
  refine wpAny_bind (wpAny_seqItems hS rfl (wpAny_pure ?_))
  show wpAny _ _ (updateSeq s.heap.objs.size (fun _ => #[]) >>= fun _ => letGo (#[] : Array Value).toList.reverse >>= fun _ => Builtin.List.listExtendWith (.ref s.heap.objs.size) (.ref z) .none) _ _ _
  refine wpAny_bind (wpAny_updateSeq hS rfl ?_)
  have hS₂ := Heap.get?_update_self (Obj.mapSeq (fun _ => (#[] : Array Value))) hS rfl
  have up : ∀ b o, s.heap.get? b = some o → ((s.heap.push { cls := .type "list", data := .seq #[] }).update s.heap.objs.size (Obj.mapSeq (fun _ => (#[] : Array Value)))).get? b = some o :=
    fun b o e => (Heap.get?_update_other _ _ (Nat.ne_of_gt (Heap.lt_size e))).trans (Heap.get?_push_of_some _ e)
  have z1 : ((s.heap.push { cls := .type "list", data := .seq #[] }).update s.heap.objs.size (Obj.mapSeq (fun _ => (#[] : Array Value)))).objs.size = s.heap.objs.size + 1 := by
    rw [Heap.size_update]
    exact Heap.size_push ..
  obtain ⟨q1, q2, q3, q4, q5, _⟩ := Z.lt
  refine wpAny_bind (wpAny_letGo ?_)
  refine zt_extend (A := A.in1) (s := { s with heap := (s.heap.push { cls := .type "list", data := .seq #[] }).update s.heap.objs.size (Obj.mapSeq (fun _ => (#[] : Array Value))) }) hh Z.D np hn .none
    (Z.st.up (fun b o _ e => up b o e) np) ⟨oz, up _ _ hoz, hcz⟩ _ hS₂
    ⟨by rw [z1]; exact Nat.lt_succ_of_lt q1, by rw [z1]; exact Nat.lt_succ_of_lt q3, by rw [z1]; exact Nat.lt_succ_of_lt q4, by rw [z1]; exact Nat.lt_succ_of_lt q5⟩ fun h' tk acc c as hk hS' hl hG hacc => ?_
  exact ⟨rfl, hQ h' tk acc c as (fun b o b2 b3 b4 b5 e => hk b o (Nat.ne_of_lt (Heap.lt_size e)) b2 b3 b4 b5 (up _ _ e)) hS' hl (by rw [← z1]; exact hG) hacc⟩
/-- the call that makes it -/
theorem zt_new {l1 l2 : Addr} {xs ys : Array Value} {Q : Value → Shared → Prop} (h1 : s.heap.IsTuple l1 xs) (h2 : s.heap.IsTuple l2 ys)
    (h : ∀ h', ZNew h' (s.heap.objs.size + 4) (s.heap.objs.size + 2) (s.heap.objs.size + 3) s.heap.objs.size (s.heap.objs.size + 1) l1 l2 xs ys → (∀ c o, s.heap.get? c = some o → h'.get? c = some o) → h'.objs.size = s.heap.objs.size + 5 →
      Q (.ref (s.heap.objs.size + 4)) { s with heap := h' }) : wpAny (model prog w) A (call (.type "zip") [.ref l1, .ref l2]) Q E s := by
  have a1 : l1 < s.heap.objs.size := by obtain ⟨_, e, _⟩ := h1; exact Heap.lt_size e
  have a2 : l2 < s.heap.objs.size := by obtain ⟨_, e, _⟩ := h2; exact Heap.lt_size e
  refine RZ.call_zipT h1 h2 fun h' b1 b2 b3 b4 b5 b6 hk => h h' ⟨?_, ⟨b2, b4, b5, h1.at fun o e => hk _ o e, h2.at fun o e => hk _ o e, .inl ⟨b1, _, _, b3⟩⟩, ?_⟩ hk b6
  · have key : ∀ m l1 l2 : Nat, l1 < m → l2 < m → ZipApart (m + 4) (m + 2) (m + 3) m (m + 1) l1 l2 := fun m l1 l2 e1 e2 => by
      constructor <;> (show ¬ (_ : Nat) = _) <;> omega
    exact key _ _ _ a1 a2
  · rw [b6]
    have key : ∀ m l1 l2 : Nat, l1 < m → l2 < m → m + 4 < m + 5 ∧ m + 2 < m + 5 ∧ m + 3 < m + 5 ∧ m < m + 5 ∧ m + 1 < m + 5 ∧ l1 < m + 5 ∧ l2 < m + 5 := fun m l1 l2 e1 e2 => by omega
    exact key _ _ _ a1 a2
end

/-! ### the layer's rules -/
section
variable {X : Cx} {pins : List (Addr × Obj)} {σ : L2.St} {H H' : Hp} {s : Shared} {h' : Heap}
/-- many new objects at once -/
theorem inv_grow {tk : Nat} (I : Inv X pins σ H s) (hk : ∀ b o, s.heap.get? b = some o → h'.get? b = some o) (old : ∀ b, b < s.heap.objs.size → H' b = H b)
    (new : ∀ b u, s.heap.objs.size ≤ b → H' b = some u → ObjOk X.prog X.w H' h' b u) : Inv X pins σ H' { s with heap := h', toks := tk } := by
  have kp : ∀ b u, H b = some u → H' b = some u := fun b u e => by rw [old b (I.hok.lt e)]; exact e
  refine I.call' (ch := []) rfl ⟨fun b o q _ _ _ => hk b o q, fun b o q _ _ _ => ⟨o.slots, hk b o q⟩, fun b o q n _ => by rw [old b (Heap.lt_size q)]; exact n, fun b o q _ => ⟨o, hk b o q⟩, fun b xs q => kp b _ q, fun b o u q => kp b _ q,
    fun b ps q => ⟨#[], by rw [kp b _ q]; simp⟩⟩ (fun b u q => ?_) I.bare fun b z => by simp at z
  rcases Nat.lt_or_ge b s.heap.objs.size with c | c
  · rw [old b c] at q
    exact (I.hok b u q).stay (fun d v _ y => hk d v y) (fun d y => kp d _ y) fun d xs y => kp d _ y
  · exact new b u c q
end
/-- tuples of two at the addresses ts -/
def putP : Hp → List Addr → List (V × V) → Hp
  | H, t :: ts, p :: ps => putP (upd H t (.tup [p.1, p.2])) ts ps
  | H, _, _ => H
theorem putP_off {b : Addr} : ∀ (ts : List Addr) (ps : List (V × V)) (H : Hp), b ∉ ts → putP H ts ps b = H b
  | [], _, _, _ => rfl
  | _ :: _, [], _, _ => rfl
  | t :: ts, p :: ps, H, h => by
    show putP (upd H t (.tup [p.1, p.2])) ts ps b = H b
    rw [putP_off ts ps _ (fun z => h (List.mem_cons_of_mem _ z)), upd_ne (fun z => h (by rw [z]; exact List.mem_cons_self))]
theorem putP_at : ∀ (ts : List Addr) (ps : List (V × V)) (H : Hp), ts.length = ps.length → ts.Nodup → ∀ (j : Nat) (t : Addr) (p : V × V), ts[j]? = some t → ps[j]? = some p → putP H ts ps t = some (.tup [p.1, p.2])
  | [], _, _, _, _, j, t, p, h, _ => by simp at h
  | _ :: _, [], _, h, _, _, _, _, _, _ => by cases h
  | t :: ts, p :: ps, H, hl, hn, j, u, q, h1, h2 => by
    obtain ⟨n1, n2⟩ := List.nodup_cons.mp hn
    show putP (upd H t (.tup [p.1, p.2])) ts ps u = some (.tup [q.1, q.2])
    cases j with
    | zero =>
      cases h1
      cases h2
      rw [putP_off ts ps _ n1, upd_same]
    | succ j => exact putP_at ts ps _ (Nat.succ.inj hl) n2 j u q (by simpa using h1) (by simpa using h2)
theorem vals_refs : ∀ ts : List Addr, Vals (ts.map V.ref) (ts.map Value.ref)
  | [] => .nil
  | _ :: ts => .cons rfl (vals_refs ts)
/-- the pairs of xs and ys stand at ts -/
def Zipd (H : Hp) (ts : List Addr) (xs ys : List V) : Prop := ts.length = min xs.length ys.length ∧ ∀ (j : Nat) (t : Addr), ts[j]? = some t → ∃ x y, xs[j]? = some x ∧ ys[j]? = some y ∧ H t = some (.tup [x, y])
theorem zip_laid {X : Cx} {pins : List (Addr × Obj)} {σ : L2.St} {H : Hp} {s : Shared} {h' : Heap} {tk : Nat} {xs ys : List V} {us vs : List Value} {ts : List Addr} {q lo : Addr} {o : HO} (I : Inv X pins σ H s) (rx : Vals xs us) (ry : Vals ys vs)
    (hk : ∀ b ob, s.heap.get? b = some ob → h'.get? b = some ob) (hl : ts.length = min us.length vs.length) (hG : Prs us.toArray vs.toArray lo h' ts) (hlo : s.heap.objs.size ≤ lo) (hq : s.heap.objs.size ≤ q) (hqn : q ∉ ts)
    (ho : ∀ H' : Hp, ObjOk X.prog X.w H' h' q o) :
    ∃ H' : Hp, Same H H' ∧ (∀ b, b < s.heap.objs.size → H' b = H b) ∧ H' q = some o ∧ Zipd H' ts xs ys ∧ Inv X pins σ H' { s with heap := h', toks := tk } := by
  have lx := rx.length
  have ly := ry.length
  have nd : ts.Nodup := List.Pairwise.imp (fun {a b} (h : a < b) => Nat.ne_of_lt h) hG.rise
  have lz : ts.length = (xs.zip ys).length := by rw [List.length_zip, hl, lx, ly]
  have low : ∀ t ∈ ts, s.heap.objs.size ≤ t := fun t ht => Nat.le_trans hlo (hG.above t ht)
  have old : ∀ b, b < s.heap.objs.size → putP (upd H q o) ts (xs.zip ys) b = H b := fun b hb => by
    rw [putP_off ts _ _ (fun z => absurd hb (Nat.not_lt.mpr (low b z))), upd_ne (fun z => by rw [z] at hb; exact absurd hb (Nat.not_lt.mpr hq))]
  have at_ : ∀ (j : Nat) (t : Addr), ts[j]? = some t → ∃ x y, xs[j]? = some x ∧ ys[j]? = some y ∧ putP (upd H q o) ts (xs.zip ys) t = some (.tup [x, y]) := fun j t hj => by
    have hjl : j < ts.length := (List.getElem?_eq_some_iff.mp hj).1
    have h1 : j < xs.length := by omega
    have h2 : j < ys.length := by omega
    refine ⟨xs[j], ys[j], List.getElem?_eq_getElem h1, List.getElem?_eq_getElem h2, ?_⟩
    exact putP_at ts _ _ lz nd j t (xs[j], ys[j]) hj (by rw [List.getElem?_zip_eq_some]; exact ⟨List.getElem?_eq_getElem h1, List.getElem?_eq_getElem h2⟩)
  have eq : putP (upd H q o) ts (xs.zip ys) q = some o := by rw [putP_off ts _ _ hqn, upd_same]
  refine ⟨putP (upd H q o) ts (xs.zip ys), fun b u e => by rw [old b (I.hok.lt e)]; exact e, old, eq, ⟨by rw [hl, lx, ly], at_⟩, inv_grow I hk old fun b u hb e => ?_⟩
  by_cases hbt : b ∈ ts
  · obtain ⟨j, hj⟩ := List.mem_iff_getElem?.mp hbt
    obtain ⟨x, y, e1, e2, e3⟩ := at_ j b hj
    rw [e3] at e
    cases e
    obtain ⟨u1, u2, f1, f2, f3⟩ := hG.at_ j b hj
    obtain ⟨w1, g1, r1⟩ := rx.get e1
    obtain ⟨w2, g2, r2⟩ := ry.get e2
    have k1 : w1 = u1 := by
      rw [List.getElem?_toArray, g1] at f1
      exact Option.some.inj f1
    have k2 : w2 = u2 := by
      rw [List.getElem?_toArray, g2] at f2
      exact Option.some.inj f2
    subst k1 k2
    exact ⟨by show 2 ≤ sizeLine; decide, [w1, w2], .cons r1 (.cons r2 .nil), ⟨_, f3, rfl, _, rfl⟩⟩
  · by_cases hbq : b = q
    · subst hbq
      rw [eq] at e
      cases e
      exact ho _
    · rw [putP_off ts _ _ hbt, upd_ne hbq, I.hok.fresh hb] at e
      cases e
/-- tuple(zip(a, b)), list(zip(a, b)): a new tuple (list) of new pairs -/
def tZip (K : PySem.W.Frag) (mk : List V → HO) (t : TA) : TE := fun σ H Q => t σ H fun vs H1 => ∃ a b xs ys, vs = [.ref a, .ref b] ∧ SqT K H1 a xs ∧ SqT K H1 b ys ∧
  ∀ H' p ts, Same H1 H' → H1 p = none → H' p = some (mk (ts.map V.ref)) → Zipd H' ts xs ys → Q (.ref p) H'
section
variable {X : Cx} {a b : Expr} {t : TA} {p p2 pos pos2 : Pos}
theorem pe_tupZip (hc : X.calm = true) (hg : Gl X "tuple") (hm : X.mg "tuple" = none) (hg2 : Gl X "zip") (hm2 : X.mg "zip" = none) (ha : PA X [a, b] t)
    (hs : starEach [a, b] X.env = (false, eval a X.env) :: starEach [b] X.env := by rfl) (hpl : (backTo pos2 (starEach [b] X.env)).any (·.1) = false := by rfl)
    (hs2 : starEach [.Call (.Name "zip" p2) [a, b] [] pos2] X.env = (false, eval (.Call (.Name "zip" p2) [a, b] [] pos2) X.env) :: starEach [] X.env := by rfl) :
    PE X (.Call (.Name "tuple" p) [.Call (.Name "zip" p2) [a, b] [] pos2] [] pos) (tZip X.K .tup t) := by
  refine ⟨fun pins s σ H Q I h => ?_⟩
  refine Call_ (ld_blt I hg hm boot_tuple (PyProof.Rows.callWith_type1 (args_cons (Call_ (ld_blt I hg2 hm2 PyProof.Rows.boot_zip (PyProof.Rows.callWith_type1 (thn (ha.run pos2 pins s σ H _ I h) fun us s1 ⟨vs, H1, I1, r1, q1⟩ => ?_) hs hpl)))) hs2 rfl))
  obtain ⟨l1, l2, xs, ys, rfl, h1, h2, q⟩ := q1
  obtain ⟨u1, u2, rfl, e1, e2⟩ := vals2 r1
  cases e1
  cases e2
  obtain ⟨its1, rv1, t1, z1⟩ := I1.tuple h1
  obtain ⟨its2, rv2, t2, z2⟩ := I1.tuple h2
  refine zt_new (show s1.heap.IsTuple l1 its1.toArray from t1) (show s1.heap.IsTuple l2 its2.toArray from t2) fun h2' Z hk2 hsz2 => args_nil ?_
  have hn : min its1.toArray.size its2.toArray.size ≤ sizeLine := by
    rw [List.size_toArray, List.size_toArray, ← rv1.length]
    omega
  refine zt_tuple (s := { s1 with heap := h2' }) (I1.ok.hd hc) Z hn fun h3 tk as hk3 hl hG hle => ?_
  dsimp only at hk3 hl hG hle
  have old3 : ∀ c o, s1.heap.get? c = some o → (h3.push { cls := .type "tuple", data := .seq (as.map Value.ref).toArray }).get? c = some o := fun c o e => by
    have hlt := Heap.lt_size e
    have key : ∀ m c : Nat, c < m → c ≠ m + 4 ∧ c ≠ m + 3 ∧ c ≠ m ∧ c ≠ m + 1 := fun m c h => by omega
    obtain ⟨k1, k2, k3, k4⟩ := key _ _ hlt
    exact Heap.get?_push_of_some _ (hk3 c o k1 k2 k3 k4 (hk2 c o e))
  have hle1 : s1.heap.objs.size ≤ h2'.objs.size := by rw [hsz2]; exact Nat.le_add_right _ _
  have hqn : h3.objs.size ∉ as := fun z => Nat.lt_irrefl _ (hG.lt z)
  obtain ⟨H', sm, old, eq, hz, J⟩ := zip_laid (tk := tk) (q := h3.objs.size) (o := .tup (as.map V.ref)) I1 rv1 rv2 old3 (by rw [hl, List.size_toArray, List.size_toArray])
    (⟨hG.rise, hG.above, fun j a hj => by obtain ⟨x, y, f1, f2, f3⟩ := hG.at_ j a hj; exact ⟨x, y, f1, f2, Heap.get?_push_of_some _ f3⟩⟩ : Prs _ _ (h2'.objs.size + 1) _ as) (Nat.le_succ_of_le hle1) (Nat.le_trans hle1 hle) hqn
    (fun H' => ⟨by rw [List.length_map, hl]; exact hn, _, vals_refs as, ⟨_, Heap.get?_push_size _ rfl, rfl, _, rfl⟩⟩)
  exact ⟨.ref _, H', J, rfl, q H' _ as sm (I1.hok.fresh (Nat.le_trans hle1 hle)) eq hz⟩
theorem pe_listZip (hc : X.calm = true) (hg : Gl X "list") (hm : X.mg "list" = none) (hg2 : Gl X "zip") (hm2 : X.mg "zip" = none) (ha : PA X [a, b] t)
    (hs : starEach [a, b] X.env = (false, eval a X.env) :: starEach [b] X.env := by rfl) (hpl : (backTo pos2 (starEach [b] X.env)).any (·.1) = false := by rfl)
    (hs2 : starEach [.Call (.Name "zip" p2) [a, b] [] pos2] X.env = (false, eval (.Call (.Name "zip" p2) [a, b] [] pos2) X.env) :: starEach [] X.env := by rfl) :
    PE X (.Call (.Name "list" p) [.Call (.Name "zip" p2) [a, b] [] pos2] [] pos) (tZip X.K .lst t) := by
  refine ⟨fun pins s σ H Q I h => ?_⟩
  refine Call_ (ld_blt I hg hm boot_list (PyProof.Rows.callWith_type1 (args_cons (Call_ (ld_blt I hg2 hm2 PyProof.Rows.boot_zip (PyProof.Rows.callWith_type1 (thn (ha.run pos2 pins s σ H _ I h) fun us s1 ⟨vs, H1, I1, r1, q1⟩ => ?_) hs hpl)))) hs2 rfl))
  obtain ⟨l1, l2, xs, ys, rfl, h1, h2, q⟩ := q1
  obtain ⟨u1, u2, rfl, e1, e2⟩ := vals2 r1
  cases e1
  cases e2
  obtain ⟨its1, rv1, t1, z1⟩ := I1.tuple h1
  obtain ⟨its2, rv2, t2, z2⟩ := I1.tuple h2
  refine zt_new (show s1.heap.IsTuple l1 its1.toArray from t1) (show s1.heap.IsTuple l2 its2.toArray from t2) fun h2' Z hk2 hsz2 => args_nil ?_
  have hn : min its1.toArray.size its2.toArray.size ≤ sizeLine := by
    rw [List.size_toArray, List.size_toArray, ← rv1.length]
    omega
  refine zt_list (s := { s1 with heap := h2' }) (I1.ok.hd hc) Z hn fun h3 tk acc c as hk3 hS3 hl hG hacc => ?_
  dsimp only at hk3 hS3 hl hG
  have old3 : ∀ c o, s1.heap.get? c = some o → h3.get? c = some o := fun c o e => by
    have hlt := Heap.lt_size e
    have key : ∀ m c : Nat, c < m → c ≠ m + 4 ∧ c ≠ m + 3 ∧ c ≠ m ∧ c ≠ m + 1 := fun m c h => by omega
    obtain ⟨k1, k2, k3, k4⟩ := key _ _ hlt
    exact hk3 c o k1 k2 k3 k4 (hk2 c o e)
  have hle1 : s1.heap.objs.size ≤ h2'.objs.size := by rw [hsz2]; exact Nat.le_add_right _ _
  have hqn : h2'.objs.size ∉ as := fun z => absurd (hG.above _ z) (Nat.not_succ_le_self _)
  obtain ⟨H', sm, old, eq, hz, J⟩ := zip_laid (tk := tk) (q := h2'.objs.size) (o := .lst (as.map V.ref)) I1 rv1 rv2 old3 (by rw [hl, List.size_toArray, List.size_toArray]) hG (Nat.le_succ_of_le hle1) hle1 hqn
    (fun H' => ⟨by rw [List.length_map, hl]; exact hn, acc.toList, c, by rw [hacc]; exact vals_refs as, by rw [Array.toArray_toList]; exact hS3⟩)
  exact ⟨.ref _, H', J, rfl, q H' _ as sm (I1.hok.fresh hle1) eq hz⟩
end
end K76
set_option maxHeartbeats 200000
set_option Elab.async false
set_option linter.all false
set_option maxRecDepth 100000
set_option maxHeartbeats 4000000
/-! Rules that the layer lacks, fourth part: set of a list of texts, sorted of such a set. -/
namespace K76
open PySem PySem.Spec PyProof.Rows L2
def txt (e : Int × Value) : Str := match e.2 with | .str x _ => x | _ => Str.empty
def TxtE (w : World) (e : Int × Value) : Prop := ∃ x tk, e.2 = Value.str x tk ∧ e.1 = hashStr w x
/-- the set of texts at a: S its members; its table rises and can be walked -/
def SetS (w : World) (h : Heap) (a : Addr) (S : Str → Prop) (n : Nat) : Prop :=
  ∃ o es ep t, h.get? a = some o ∧ o.ExactSet ∧ o.data = .set es ep t ∧ (∀ e ∈ es.toList, TxtE w e) ∧ (es.toList.map txt).Nodup ∧ (∀ k, S k ↔ k ∈ es.toList.map txt) ∧
    es.size < scanBound ∧ t.fits es.size = true ∧ es.size ≤ n ∧ Ris t.place.toList ∧ (w.params.followText "set-order" = true ∨ t.led = true)
section
variable {P : Program} {w : World} {A : Around} {E : Value → Shared → Prop} {s : Shared} {a : Addr} {S : Str → Prop} {n : Nat}
theorem SetS.at {h h' : Heap} (R : SetS w h a S n) (k : ∀ o, h.get? a = some o → h'.get? a = some o) : SetS w h' a S n := by
  obtain ⟨o, es, ep, t, ho, r⟩ := R
  exact ⟨o, es, ep, t, k o ho, r⟩
theorem SetS.congr {h : Heap} {S' : Str → Prop} (R : SetS w h a S n) (e : ∀ k, S' k ↔ S k) : SetS w h a S' n := by
  obtain ⟨o, es, ep, t, ho, hx, hd, g, nd, hm, r⟩ := R
  exact ⟨o, es, ep, t, ho, hx, hd, g, nd, fun k => (e k).trans (hm k), r⟩
theorem txt_elems {l : List (Int × Value)} (g : ∀ e ∈ l, TxtE w e) : ElemsOf (strKind P w) l := fun e he => by
  obtain ⟨x, tk, h1, h2⟩ := g e he
  exact ⟨⟨x, by rw [h1]; exact strKind_is P w x tk, h2⟩, by rw [h1]; rfl⟩
theorem txt_is {e : Int × Value} (g : TxtE w e) (k : Str) : (strKind P w).is k e.2 = true ↔ txt e = k := by
  obtain ⟨x, tk, h1, _⟩ := g
  unfold txt
  rw [h1]
  constructor
  · intro h
    exact ((strKind P w).inj _ _ _ h (strKind_is P w x tk)).symm
  · intro h
    have h' : x = k := h
    rw [← h']
    exact strKind_is P w x tk
theorem txt_mem {l : List (Int × Value)} (g : ∀ e ∈ l, TxtE w e) (k : Str) : k ∈ l.map txt ↔ ∃ e ∈ l, (strKind P w).is k e.2 = true := by
  rw [List.mem_map]
  constructor
  · rintro ⟨e, he, q⟩
    exact ⟨e, he, (txt_is (g e he) k).2 q⟩
  · rintro ⟨e, he, q⟩
    exact ⟨e, he, (txt_is (g e he) k).1 q⟩
theorem sets_tail {g : Bool → Sem Unit} (hg : ∀ (b : Bool) (s₁ : Shared) (Q' : Unit → Shared → Prop), Q' () s₁ → wpAny (model P w) A (g b) Q' E s₁)
    {o : Obj} {es : Array (Int × Value)} {ep : Nat} {t : SetTable} (ho : s.heap.get? a = some o) (hex : o.ExactSet) (hd : o.data = .set es ep t)
    {es1 : Array (Int × Value)} {t2 : SetTable} {S' : Str → Prop} (g1 : ∀ e ∈ es1.toList, TxtE w e) (nd1 : (es1.toList.map txt).Nodup) (m1 : ∀ k, S' k ↔ k ∈ es1.toList.map txt)
    (hb1 : es1.size < scanBound) (hf2 : t2.fits es1.size = true) (hr : Ris t2.place.toList) (hl : w.params.followText "set-order" = true ∨ t2.led = true) {m : Nat} (hm : es1.size ≤ m) {wasDummy : Bool} {R : Option Bool → Shared → Prop}
    (hR : ∀ h', Heap.SameBut a s.heap h' → SetS w h' a S' m → R (some true) { s with heap := h' }) :
    wpAny (model P w) A (do
        storeSet a es1 t2
        if (!wasDummy && t2.tooFull) = true then do
            g (relayAll t2 es1 (SetTable.grown es1.size)).2.2
            storeSet a (relayAll t2 es1 (SetTable.grown es1.size)).1 (relayAll t2 es1 (SetTable.grown es1.size)).2.1
            pure (some true)
          else pure (some true)) R E s := by
  refine wpAny_bind (wpAny_storeSet_of ho hd ?_ (fits_of_scanBound hb1))
  have ho1 := store_at (es' := es1) (t' := t2) ho hd
  have sb1 := Heap.SameBut.update s.heap a (Obj.putSet es1 t2)
  split
  · have pm := relayAll_perm t2 es1 (SetTable.grown es1.size)
    have hf3 := relayAll_fits t2 es1 (SetTable.grown es1.size)
    have hr3 := relayAll_ris t2 es1 (SetTable.grown es1.size)
    have hl3 := relayAll_led t2 es1 (SetTable.grown es1.size)
    generalize relayAll t2 es1 (SetTable.grown es1.size) = Z at pm hf3 hr3 hl3 ⊢
    obtain ⟨es2, t3, gave⟩ := Z
    dsimp only at pm hf3 hr3 hl3 ⊢
    have hsz : es2.size = es1.size := by rw [← Array.length_toList, pm.length_eq, Array.length_toList]
    have hb2 : es2.size < scanBound := by rw [hsz]; exact hb1
    refine wpAny_bind (hg _ _ _ ?_)
    refine wpAny_bind (wpAny_storeSet_of ho1 rfl ?_ (fits_of_scanBound hb2))
    have ho2 := store_at (es' := es2) (t' := t3) ho1 rfl
    refine wpAny_pure (hR _ (sb1.trans (Heap.SameBut.update _ a _)) ?_)
    rw [hsz] at hf3
    exact ⟨_, es2, _, t3, ho2, hex, rfl, fun e he => g1 e (pm.mem_iff.mp he), (pm.map txt).nodup_iff.mpr nd1, fun k => (m1 k).trans (pm.map txt).mem_iff.symm, hb2, by rw [hsz]; exact hf3, by rw [hsz]; exact hm, hr3,
      hl.imp id fun z => by rw [hl3]; exact z⟩
  · exact wpAny_pure (hR _ sb1 ⟨_, es1, _, t2, ho1, hex, rfl, g1, nd1, m1, hb1, hf2, hm, hr, hl⟩)
theorem sets_add {k : Str} {tk : Tok} {Q : Bool → Shared → Prop} (R : SetS w s.heap a S n) (room : n + 1 < scanBound)
    (hQ : ∀ h' b, Heap.SameBut a s.heap h' → SetS w h' a (fun j => S j ∨ j = k) (n + 1) → Q b { s with heap := h' }) :
    wpAny (model P w) A (setAddHashed a (.str k tk) ((strKind P w).hash k)) Q E s := by
  obtain ⟨o, es, ep, t, ho, hex, hd, g, nd, hm, hb, hf, hn, hr, hl⟩ := R
  have hkey : (strKind P w).is k (.str k tk) = true := strKind_is P w k tk
  have hsc : (Value.str k tk).scannable = true := rfl
  have hel : ElemsOf (strKind P w) es.toList := txt_elems g
  unfold setAddHashed setAddHashedIn
  refine wpAny_holding (wpAny_bind (wpAny_setState_of ho hd hf ?_))
  dsimp only
  rw [byScan_of hsc hb hel]
  simp only [↓reduceIte]
  unfold setAddByScan
  refine wpAny_bind ?_
  refine wpAny_bind (wpAny_rule ?_)
  refine wpAny_bind (wpAny_setScan_of hkey ho hd hf hel ?_)
  cases hfi : List.findIdx? (fun e => (strKind P w).is k e.2) es.toList with
  | some j =>
    dsimp only
    obtain ⟨hj, pj, _⟩ := List.findIdx?_eq_some_iff_getElem.mp hfi
    have hSk : S k := (hm k).2 ((txt_mem (P := P) (w := w) g k).2 ⟨es.toList[j], List.getElem_mem hj, pj⟩)
    refine wpAny_pure (wpAny_pure ?_)
    exact hQ s.heap _ (Heap.SameBut.refl a s.heap) ⟨o, es, ep, t, ho, hex, hd, g, nd, fun i => by
      rw [← hm i]
      exact ⟨fun z => z.elim id (fun e => e ▸ hSk), .inl⟩, hb, hf, Nat.le_succ_of_le hn, hr, hl⟩
  | none =>
    dsimp only
    have hnk : k ∉ es.toList.map txt := fun z => by
      obtain ⟨e, he, q⟩ := (txt_mem (P := P) (w := w) g k).1 z
      have c := List.findIdx?_eq_none_iff.mp hfi e he
      rw [q] at c
      cases c
    have hgw : ∀ (b : Bool) {s₁ : Shared} {Q' : Unit → Shared → Prop}, Q' () s₁ → wpAny (model P w) A (match b with | true => rule "set.scan.the-table-gave-way" | false => pure ()) Q' E s₁ :=
      fun b s₁ Q' q => by cases b <;> first | exact wpAny_pure q | exact wpAny_rule q
    have pm := layNew_perm t es ((strKind P w).hash k) (.str k tk)
    have hf1 := layNew_fits t es ((strKind P w).hash k) (.str k tk)
    have hr1 := layNew_ris t es ((strKind P w).hash k) (.str k tk) hr
    have hl1 := layNew_led t es ((strKind P w).hash k) (.str k tk)
    generalize layNew t es ((strKind P w).hash k) (.str k tk) = Z at pm hf1 hr1 hl1 ⊢
    obtain ⟨es1, t1, wasDummy, gave⟩ := Z
    dsimp only at pm hf1 hr1 hl1 ⊢
    rw [Array.toList_push] at pm
    have pc : es1.toList.Perm (((strKind P w).hash k, Value.str k tk) :: es.toList) := pm.trans (List.perm_append_singleton _ _)
    have pk : (es1.toList.map txt).Perm (k :: es.toList.map txt) := pc.map txt
    have g1 : ∀ e ∈ es1.toList, TxtE w e := fun e he => by
      rcases List.mem_cons.mp (pc.mem_iff.mp he) with z | z
      · rw [z]; exact ⟨k, tk, rfl, rfl⟩
      · exact g e z
    have nd1 : (es1.toList.map txt).Nodup := pk.nodup_iff.mpr (List.nodup_cons.mpr ⟨hnk, nd⟩)
    have m1 : ∀ i, (S i ∨ i = k) ↔ i ∈ es1.toList.map txt := fun i => by
      rw [hm i, pk.mem_iff, List.mem_cons]
      exact Or.comm
    have hsz : es1.size ≤ n + 1 := by
      rw [← Array.length_toList, pc.length_eq, List.length_cons, Array.length_toList]
      omega
    have hb1 : es1.size < scanBound := by omega
    have hled : w.params.followText "set-order" = true ∨ t1.led = true := hl.imp id fun z => by rw [hl1]; exact z
    refine wpAny_bind (hgw _ ?_)
    split
    · refine wpAny_bind ?_
      rw [hashByValue_scannable 8 hsc]
      refine wpAny_pure ?_
      refine sets_tail ?_ ho hex hd g1 nd1 m1 hb1 ?_ ?_ ?_ hsz ?_
      · intro b s₁ Q' q; cases b <;> first | exact wpAny_pure q | exact wpAny_rule q
      · first | (split <;> first | exact hf1 | exact SetTable.fits_plain_off hf1) | exact hf1
      · first | (split <;> exact hr1) | exact hr1
      · first | (split <;> exact hled) | exact hled
      · intro h' sb r; dsimp only; exact wpAny_pure (hQ h' _ sb r)
    · refine wpAny_bind (wpAny_pure ?_)
      simp only [↓reduceIte]
      refine sets_tail ?_ ho hex hd g1 nd1 m1 hb1 hf1 hr1 hled hsz ?_
      · intro b s₁ Q' q; cases b <;> first | exact wpAny_pure q | exact wpAny_rule q
      · intro h' sb r; dsimp only; exact wpAny_pure (hQ h' _ sb r)
theorem sets_fresh {h : Heap} {xs : List Str} (ho : h.get? a = some { cls := .type "set", dict := none, data := .set #[] 0 (.fresh 0 0 (!w.params.followText "set-order")) }) : SetS w h a (fun k => k ∈ xs.take 0) 0 :=
  ⟨_, #[], 0, _, ho, ⟨rfl, rfl, rfl⟩, rfl, (fun e he => by simp at he), (by simp), (fun k => by simp), (by decide), (by rfl), Nat.le_refl _, List.Pairwise.nil, by
    show _ ∨ (!w.params.followText "set-order") = true
    cases w.params.followText "set-order"
    · exact .inr rfl
    · exact .inl rfl⟩
theorem strs_ix : ∀ {us : List Value} {xs : List Str}, StrsAre us xs → ∀ (i : Nat) (v : Value), us[i]? = some v → ∃ x t, xs[i]? = some x ∧ v = .str x t
  | _, _, .nil, _, _, h => by simp at h
  | _, _, .cons x t r, 0, v, h => by
    simp at h
    exact ⟨x, t, rfl, h.symm⟩
  | _, _, .cons x t r, i + 1, v, h => by
    obtain ⟨y, u, e1, e2⟩ := strs_ix r i v (by simpa using h)
    exact ⟨y, u, by simpa using e1, e2⟩
/-- set.update's loop over texts -/
theorem sets_loop {I : Addr} {fp wr : List Addr} {G : Array GenState → Array GenState → Prop} {n : Nat} {Pv : Nat → Value → Prop} {St : Nat → Shared → Prop} {R : Result → Shared → Prop}
    (W : WalksS P w A.in1 I fp wr G n Pv St) (S : Addr) (hSf : S ∉ fp) (xs : List Str) (hn : n = xs.length) (hb : xs.length + 1 < scanBound) (hval : ∀ i v, Pv i v → ∃ x t, xs[i]? = some x ∧ v = .str x t) :
    ∀ (k i : Nat) (s : Shared), n - i = k → i ≤ n → St i s → SetS w s.heap S (fun k => k ∈ xs.take i) i →
      (∀ s', Moved (S :: wr) G s s' → SetS w s'.heap S (fun k => k ∈ xs) n → R (.ok (.ret .none)) s') →
      codeAny (model P w) A (.builtin "set.update.loop" ⟨[.ref S, .ref I], []⟩) R s := by
  have hSw : S ∉ wr := fun h => hSf (W.sub _ h)
  have hsub : ∀ b ∈ wr, b ∈ S :: wr := fun b hb => List.mem_cons_of_mem _ hb
  intro k
  induction k with
  | zero =>
    intro i s hk' hi hst hS hR
    obtain rfl : i = n := by omega
    refine codeAny_builtin F.entry_set_update_loop ?_
    rw [Around.under_plainId F.plain_set_update_loop _]
    show wpAny _ A.in1 (pyNext (.ref I) >>= _) _ _ s
    refine wpAny_bind (W.done s _ _ hst fun s' hm => ?_)
    show wpAny _ A.in1 (ret Value.none) _ _ s'
    refine wpAny_pure (hR s' (hm.mono hsub) ((hS.at fun o e => hm.heap S o hSw e).congr fun k => ?_))
    rw [hn, List.take_length]
  | succ k ih =>
    intro i s hk' hi hst hS hR
    have hlt : i < n := by omega
    refine codeAny_builtin F.entry_set_update_loop ?_
    rw [Around.under_plainId F.plain_set_update_loop _]
    show wpAny _ A.in1 (pyNext (.ref I) >>= _) _ _ s
    refine wpAny_bind (W.item i s _ _ hlt hst fun v s' hP hst' hm => ?_)
    obtain ⟨x, tk, hx, rfl⟩ := hval i v hP
    have hS' := hS.at fun o e => hm.heap S o hSw e
    show wpAny _ A.in1 (holding [Value.str x tk] (setAdd S (.str x tk)) >>= _) _ _ s'
    refine wpAny_bind (wpAny_holding ?_)
    unfold setAdd
    refine wpAny_holding ?_
    refine wpAny_bind ((strKind P w).pyHash (strKind_is P w x tk) ?_)
    refine sets_add (s := { s' with toks := s'.toks + 1 }) hS' (by omega) fun h' b hsb hS2 => ?_
    have hS3 : SetS w h' S (fun k => k ∈ xs.take (i + 1)) (i + 1) := hS2.congr fun k => by
      rw [List.take_add_one, hx, List.mem_append]
      simp
    refine wpAny_pure ⟨plainId_quiet F.plain_set_update_loop _, ih (i + 1) _ (by omega) hlt (W.frame _ s' _ _ hst' (Nat.le_succ _) fun b hb o e => ?_) hS3 fun s'' hm'' hS'' => ?_⟩
    · rw [hsb.2 b (fun h : b = S => hSf (by rw [← h]; exact hb))]; exact e
    · refine hR s'' (Moved.trans W.gtrans ((hm.mono hsub).then_heap (Nat.le_succ _) fun b o hb e => ?_) hm'') hS''
      rw [hsb.2 b (fun h : b = S => hb (by rw [h]; exact List.mem_cons_self))]; exact e
/-- set(xs) -/
theorem call_sets {l : Addr} {items : Array Value} (xs : List Str) {Q : Value → Shared → Prop} (hh : A.handled = none) (hl : s.heap.IsList l items) (hit : StrsAre items.toList xs) (hb : xs.length + 1 < scanBound)
    (h : ∀ (h' : Heap) (tk : Nat), SetS w h' s.heap.objs.size (fun k => k ∈ xs) xs.length → (∀ b o, s.heap.get? b = some o → h'.get? b = some o) → Q (.ref s.heap.objs.size) { s with heap := h', toks := tk }) :
    wpAny (model P w) A (call (.type "set") [.ref l]) Q E s := by
  have hisz : items.size = xs.length := by
    rw [← Array.length_toList]
    exact StrsAre.length hit
  obtain ⟨c, tl, hmro⟩ := F.called_set.mro
  have hmade := F.called_set.made
  have hsub := F.called_set.sub
  refine wpAny_call (codeAny_of_tree ?_)
  show wpAny _ _ (callAny (.type "set") _) _ _ _
  refine wpAny_pure ⟨Code.quiet_builtin _ (by decide +kernel), codeAny_builtin F.entry_type_call ?_⟩
  rw [Around.under_plain (weight_type_call_type "set" [.ref l] []) rfl]
  have h1 := F.called_set.notType
  have h2 := F.called_set.canCreate
  have hct := F.typeCall_set_1 (.ref l)
  repeat (any_goals (first | assumption | wp_step))
  refine codeAny_mono (code_set_led1 (.ref l) (E := E) (Q₁ := fun obj s₁ => obj = .ref s.heap.objs.size ∧ s₁ = { s with heap := s.heap.push { cls := .type "set", dict := none, data := .set #[] 0 (.fresh 0 0 (!w.params.followText "set-order")) } }) ⟨rfl, rfl⟩) fun r s₁ hr => ?_
  cases r with
  | error e => exact hr
  | ok fl =>
    cases fl with
    | ret obj =>
      obtain ⟨rfl, rfl⟩ := hr
      have hS : (s.heap.push { cls := .type "set", dict := none, data := .set #[] 0 (.fresh 0 0 (!w.params.followText "set-order")) }).get? s.heap.objs.size = some { cls := .type "set", dict := none, data := .set #[] 0 (.fresh 0 0 (!w.params.followText "set-order")) } := Heap.get?_push_size _ rfl
      have hT : Shared.TypeIs { s with heap := s.heap.push { cls := .type "set", dict := none, data := .set #[] 0 (.fresh 0 0 (!w.params.followText "set-order")) } } (.ref s.heap.objs.size) "set" := ⟨_, hS, rfl⟩
      have hli := F.called_set.init.lookup
      have hbi := F.called_set.init.bind (.ref s.heap.objs.size)
      repeat (any_goals (first | assumption | wp_step))
      refine codeAny_mono (codeAny_call_builtin (R := wants (fun r s₂ => r = .none ∧ ∃ h' tk, s₂ = { s with heap := h', toks := tk } ∧ SetS w h' s.heap.objs.size (fun k => k ∈ xs) xs.length ∧
          (∀ b o, s.heap.get? b = some o → h'.get? b = some o)) E) F.called_set.init.plain F.entry_set_init (check_set_init_1 hT ?_)) fun r₂ s₂ hr₂ => ?_
      · obtain ⟨ol, hol, hcl, nl, hdl⟩ := hl
        obtain ⟨ocls, odict, odata, oslots⟩ := ol
        simp only at hcl hdl
        subst hcl
        subst hdl
        have hol' : (s.heap.push { cls := .type "set", dict := none, data := .set #[] 0 (.fresh 0 0 (!w.params.followText "set-order")) }).get? l = some { cls := .type "list", dict := odict, data := .seq items nl, slots := oslots } := Heap.get?_push_of_some _ hol
        have hsls := F.sub_list_set
        have hslf := F.sub_list_frozenset
        have hne : (Value.type "list" == Value.type "dict") = false := by decide
        have hl1 : (s.heap.push { cls := .type "set", dict := none, data := .set #[] 0 (.fresh 0 0 (!w.params.followText "set-order")) }).IsList l items := ⟨_, hol', rfl, nl, rfl⟩
        unfold Builtin.«set.__init__» noKeywords Builtin.Frozenset.updateFrom
        generalize hPI : pyIter = PI
        wp_walk
        subst hPI
        refine wpAny_pyIter_list hl1 ?_
        refine wpAny_bind (wpAny_runValue ?_)
        have hlS : l < s.heap.objs.size := Heap.lt_size hol
        have hh3 : A.in1.in1.in1.handled = none := by simp [hh]
        have hneI : l ≠ (s.heap.push { cls := .type "set", dict := none, data := .set #[] 0 (.fresh 0 0 (!w.params.followText "set-order")) }).objs.size := by
          rw [Heap.size_push]; exact Nat.ne_of_lt (Nat.lt_succ_of_lt hlS)
        have hSf : s.heap.objs.size ∉ [(s.heap.push { cls := .type "set", dict := none, data := .set #[] 0 (.fresh 0 0 (!w.params.followText "set-order")) }).objs.size, l] := by
          rw [Heap.size_push]; simp only [List.mem_cons, List.mem_singleton, List.not_mem_nil, or_false, not_or]
          exact ⟨Nat.ne_of_lt (Nat.lt_succ_self _), Nat.ne_of_gt hlS⟩
        have hval : ∀ (i : Nat) (v : Value), items[i]? = some v → ∃ x t, xs[i]? = some x ∧ v = .str x t := fun i v hv => by
          have hv' : items.toList[i]? = some v := by rw [Array.getElem?_toList]; exact hv
          exact strs_ix hit i v hv'
        refine sets_loop ((Walks.list hh3 _ l hneI items).toS) s.heap.objs.size
          hSf xs hisz hb hval (items.size - 0) 0 _ (by omega) (Nat.zero_le _)
          ⟨⟨_, Heap.get?_push_size _ rfl, rfl, rfl⟩, (hl1.push _)⟩ ?hS0 ?hR
        case hS0 => exact sets_fresh (Heap.get?_push_of_some _ hS)
        case hR =>
          intro s' hm hS'
          obtain ⟨h', g', d', tk', os'⟩ := s'
          have eg : g' = s.gens := hm.gens
          have ed : d' = s.drawn := hm.drawn
          have eo : os' = s.os := hm.os
          subst eg
          subst ed
          subst eo
          show wpAny _ _ _ _ _ _
          refine wpAny_pure ?_
          show wpAny _ _ (ret Value.none) _ _ _
          rw [hisz] at hS'
          refine wpAny_pure ⟨rfl, h', tk', rfl, hS', fun b o e => ?_⟩
          have hbl := Heap.lt_size e
          have hb1 : b ≠ s.heap.objs.size := Nat.ne_of_lt hbl
          have hb2 : b ≠ (s.heap.push { cls := .type "set", dict := none, data := .set #[] 0 (.fresh 0 0 (!w.params.followText "set-order")) }).objs.size := by
            rw [Heap.size_push]; exact Nat.ne_of_lt (Nat.lt_succ_of_lt hbl)
          exact hm.heap b o (by simp only [List.mem_cons, List.mem_singleton, List.not_mem_nil, or_false, not_or]; exact ⟨hb1, hb2⟩) (Heap.get?_push_of_some _ (Heap.get?_push_of_some _ e))
      · cases r₂ with
        | error e => exact hr₂
        | ok fl₂ =>
          cases fl₂ with
          | ret r =>
            obtain ⟨rfl, h', tk, rfl, hS', hk'⟩ := hr₂
            repeat (any_goals (first | assumption | wp_step))
            exact h _ _ hS' hk'
          | _ => exact hr₂.elim
    | _ => exact hr.elim
end
end K76
set_option maxHeartbeats 200000
set_option Elab.async false
set_option linter.all false
set_option maxRecDepth 100000
set_option maxHeartbeats 4000000
/-! Rules that the layer lacks, fifth part: set(list of texts) and its sorted by values, sorted of data, sorted of a dict with tuple keys. -/
namespace K76
open PySem PySem.Spec PyProof.Rows L2
/-- the set of texts at a -/
def SetOS (w : World) (a : Addr) (S : Str → Prop) (n : Nat) : HO := .ext fun h => SetS w h a S n
section
variable {X : Cx}
theorem setOS_new {w : World} {P : Program} {H : Hp} {h : Heap} {a : Addr} {S : Str → Prop} {n : Nat} (R : SetS w h a S n) : ObjOk P w H h a (SetOS w a S n) := by
  have ⟨o, _, _, _, ho, _⟩ := R
  exact ⟨R, ⟨o, ho⟩, fun h1 h2 p k => SetS.at p k⟩
theorem setOS_get {pins : List (Addr × Obj)} {σ : L2.St} {H : Hp} {s : Shared} {a : Addr} {S : Str → Prop} {n : Nat} (I : Inv X pins σ H s) (ha : H a = some (SetOS X.w a S n)) : SetS X.w s.heap a S n := (I.hok a _ ha).1
/-- set(xs), xs a list of texts -/
theorem cr_setS (hc : X.calm = true) : CallR X (.type "set") (fun xs H Q => ∃ (a : Addr) (ss : List Str), xs = [.ref a] ∧ SqL X.K H a (ss.map V.str) ∧ ss.length < 1000 ∧ ∀ p, H p = none → Q (.ref p) (upd H p (SetOS X.w p (fun k => k ∈ ss) ss.length))) := by
  intro pins s σ H xs us Q I r h
  obtain ⟨a, ss, rfl, hs, hb, q⟩ := h
  obtain ⟨its, rv, hl, _⟩ := I.list hs
  rw [Vals.ref1 r]
  refine call_sets ss (I.ok.hd hc) hl.isList (by simpa using rv.strs) (by unfold scanBound; omega) fun h' tk R k => ?_
  exact ⟨.ref s.heap.objs.size, _, I.laid (t' := tk) k (Nat.le_refl _) (setOS_new R), rfl, q _ (I.hok.fresh (Nat.le_refl _))⟩
theorem txts_of : ∀ (l : List Value), (∀ v ∈ l, ∃ k tk, v = Value.str k tk) → StrsAre l (l.map fun v => match v with | .str x _ => x | _ => Str.empty)
  | [], _ => .nil
  | v :: l, h => by
    obtain ⟨k, tk, rfl⟩ := h v List.mem_cons_self
    exact .cons k tk (txts_of l fun u hu => h u (List.mem_cons_of_mem _ hu))
/-- sorted(such a set), fewer than 64 members -/
theorem cr_sortedSetS (hc : X.calm = true) : CallR X (.builtin "sorted") (fun xs H Q => ∃ (a : Addr) (S : Str → Prop) (n : Nat), xs = [.ref a] ∧ H a = some (SetOS X.w a S n) ∧ n < 64 ∧
    ∀ (ys : List Str) p, ys.Nodup → (∀ k, k ∈ ys ↔ S k) → ys.length ≤ n → sortedS ys = true → H p = none → Q (.ref p) (upd H p (.lst (ys.map V.str)))) := by
  intro pins s σ H xs us Q I r h
  obtain ⟨a, S, n, rfl, ha, h64, q⟩ := h
  obtain ⟨o, es, ep, t, ho, hex, hd, g, nd, hm, hb, hf, hn, hr, hl⟩ := setOS_get I ha
  rw [Vals.ref1 r]
  refine Calls.call_function_entry kind_sorted plain_sorted entry_sorted (args_sorted1 _) ?_
  unfold Builtin.«sorted»
  refine wpAny_bind (m := checkCount "sorted" 1 1 _) (wpAny_pure ?_)
  refine wpAny_bind (collect_set (A := X.A.in1) (I.ok.hd hc) ⟨o, ho, hex.1, hd⟩ hf hb hr hl fun s1 vs k1 hz g1 o1 pm => ?_)
  have hvl : vs.length ≤ n := by rw [pm.length_eq, List.length_map, Array.length_toList]; exact hn
  have hS : StrsAre vs (vs.map fun v => match v with | .str x _ => x | _ => Str.empty) := txts_of vs fun v hv => by
    obtain ⟨e, he, q⟩ := List.mem_map.mp (pm.mem_iff.mp hv)
    obtain ⟨x, tk, h1, _⟩ := g e he
    exact ⟨x, tk, by rw [← q]; exact h1⟩
  have pk : (vs.map fun v => match v with | .str x _ => x | _ => Str.empty).Perm (es.toList.map txt) := by
    have q := pm.map fun v => match v with | .str x _ => x | _ => Str.empty
    rw [List.map_map] at q
    exact q
  refine wpAny_bind (wpAny_newList ?_ (by rw [sizeLine_eq]; omega))
  have hoL : (s1.heap.push (seqObj "list" vs.toArray 0)).get? s1.heap.objs.size = some (seqObj "list" vs.toArray 0) := Heap.get?_push_size _ rfl
  refine wpAny_bind (wpAny_holding (wpAny_call_entry slot_list_sort ⟨_, hoL, rfl⟩ entry_list_sort
    (list_sort_treeK strKind_oneLt (s := { s1 with heap := s1.heap.push (seqObj "list" vs.toArray 0) }) hoL hS.keysOf (fun v₁ v₂ rest e => keyKind_strs (by rw [← e]; exact hS)) (by omega) fun st' hp hs => ⟨_, rfl, ?_⟩)
    (args_list_sort _)))
  obtain ⟨ys, g1', g2, g3⟩ := sorted_out_str hS hp hs
  obtain ⟨e', he'⟩ := sortedHeap_at (vs := vs) (out := (arrOf st').map (·.2)) hoL
  have pn : ys.Perm (es.toList.map txt) := g2.trans pk
  have hyl : ys.length ≤ n := by rw [pn.length_eq, List.length_map, Array.length_toList]; exact hn
  have hlen : (ys.map V.str).length ≤ sizeLine := by rw [List.length_map, sizeLine_eq]; omega
  have hnp : H s1.heap.objs.size = none := I.hok.fresh hz
  have hk : ∀ b u, s.heap.get? b = some u → (sortedHeap (s1.heap.push (seqObj "list" vs.toArray 0)) s1.heap.objs.size vs ((arrOf st').map (·.2))).get? b = some u := fun b u e => by
    have q := k1 b u e
    have hlt := Heap.lt_size q
    rw [sortedHeap_old (Nat.ne_of_lt hlt) (by rw [size_push']; exact Nat.lt_succ_of_lt hlt)]
    exact Heap.get?_push_of_some _ q
  have J : Inv X pins σ (upd H s1.heap.objs.size (.lst (ys.map V.str))) { s with heap := sortedHeap (s1.heap.push (seqObj "list" vs.toArray 0)) s1.heap.objs.size vs ((arrOf st').map (·.2)), gens := s1.gens, drawn := s1.drawn, toks := s1.toks } :=
    I.call (ch := []) (Un.laid hk hz hnp) (I.hok.laid hk hz ⟨hlen, ((arrOf st').map (·.2)).toList, e', vals_of_strs g1', by rw [Array.toArray_toList]; exact he'⟩) (by rw [g1]; exact I.bare) (fun _ z => nomatch z)
  have e : ({ s1 with heap := sortedHeap (s1.heap.push (seqObj "list" vs.toArray 0)) s1.heap.objs.size vs ((arrOf st').map (·.2)) } : Shared) = { s with heap := sortedHeap (s1.heap.push (seqObj "list" vs.toArray 0)) s1.heap.objs.size vs ((arrOf st').map (·.2)), gens := s1.gens, drawn := s1.drawn, toks := s1.toks } := by
    cases s1
    cases s
    cases o1
    rfl
  refine wpAny_pure ⟨_, rfl, ?_⟩
  have J2 := J
  rw [← e] at J2
  exact ⟨.ref s1.heap.objs.size, _, J2, rfl, q ys _ (pn.nodup_iff.mpr nd) (fun k => by rw [pn.mem_iff, ← hm k]) hyl g3 hnp⟩
end
mutual
theorem reads_lt {h : Heap} : ∀ {v : Value} {d : PyData} {as : List Addr}, Reads h v d as → ∀ a ∈ as, a < h.objs.size
  | _, _, _, .none, a, ha => by simp at ha
  | _, _, _, .bool _, a, ha => by simp at ha
  | _, _, _, .int _ _, a, ha => by simp at ha
  | _, _, _, .str _ _, a, ha => by simp at ha
  | _, _, _, .list h1 _ _ h4, a, ha => by
    rcases List.mem_cons.mp ha with z | z
    · rw [z]; exact Heap.lt_size h1
    · exact readsAll_lt h4 a z
  | _, _, _, .tuple _ _ _ h4, a, ha => readsAll_lt h4 a ha
  | _, _, _, .dict h1 _ _ h4 h5, a, ha => by
    rcases List.mem_append.mp ha with z | z
    · rcases List.mem_cons.mp z with z | z
      · rw [z]; exact Heap.lt_size h1
      · exact readsAll_lt h4 a z
    · exact readsAll_lt h5 a z
theorem readsAll_lt {h : Heap} : ∀ {vs : List Value} {ds : List PyData} {as : List Addr}, ReadsAll h vs ds as → ∀ a ∈ as, a < h.objs.size
  | _, _, _, .nil, a, ha => by simp at ha
  | _, _, _, .cons h1 h2, a, ha => by
    rcases List.mem_append.mp ha with z | z
    · exact reads_lt h1 a z
    · exact readsAll_lt h2 a z
end
/-- in order: no later one is below an earlier one -/
def OrdD (bs : List (V × PyData)) : Prop := bs.Pairwise fun x y => PySem.W.dataLt y.2 x.2 = false
theorem each_vals : ∀ {bs : List (V × PyData)} {vs : List Value}, Vals (bs.map (·.1)) vs → PySem.W.EachIs (fun (v : Value) (b : V × PyData) => RelV b.1 v) vs bs
  | [], _, .nil => .nil
  | _ :: _, _, .cons r t => .cons r (each_vals t)
theorem vals_each : ∀ {bs : List (V × PyData)} {vs : List Value}, PySem.W.EachIs (fun (v : Value) (b : V × PyData) => RelV b.1 v) vs bs → Vals (bs.map (·.1)) vs
  | _, _, .nil => .nil
  | _, _, .cons r t => .cons r (vals_each t)
theorem each_reads {X : Cx} {pins : List (Addr × Obj)} {σ : L2.St} {H : Hp} {s : Shared} (I : Inv X pins σ H s) : ∀ {bs : List (V × PyData)} {vs : List Value}, Vals (bs.map (·.1)) vs → (∀ b ∈ bs, Dp X.K H b.1 b.2) →
    PySem.W.EachIs (fun (v : Value) (b : V × PyData) => ∃ as, Reads s.heap v b.2 as) vs bs
  | [], _, .nil, _ => .nil
  | b :: bs, _, .cons r t, h => .cons (Dp.reads I b.2 b.1 _ (h b List.mem_cons_self) r) (each_reads I t fun c hc => h c (List.mem_cons_of_mem _ hc))
theorem ord_sort (bs : List (V × PyData)) : OrdD (bs.mergeSort (PySem.W.dataLe false (fun b : V × PyData => b.2))) := by
  unfold OrdD
  refine List.Pairwise.imp (fun {x y} h => ?_) (PySem.W.sort_pairwise (PySem.W.sortLe_total (listOrd itemOrd) false fun b : V × PyData => PySem.W.keyToks b.2) bs)
  have h' : (!PySem.W.dataLt y.2 x.2) = true := h
  cases e : PySem.W.dataLt y.2 x.2 with
  | false => rfl
  | true => rw [e] at h'; cases h'
section
variable {X : Cx}
def DepthOk (A : Around) (bs : List (V × PyData)) : Prop := ∀ b ∈ bs, A.units + 2 + b.2.depth < cLine
/-- sorted(xs), xs a list of data -/
theorem cr_sortedData : CallR X (.builtin "sorted") (fun xs H Q => ∃ (a : Addr) (bs : List (V × PyData)), xs = [.ref a] ∧ SqL X.K H a (bs.map (·.1)) ∧ (∀ b ∈ bs, Dp X.K H b.1 b.2) ∧ PySem.W.AllAlike (bs.map (·.2)) ∧ PySem.W.Sortable (bs.map (·.2)) ∧ DepthOk X.A bs ∧
    ∀ (cs : List (V × PyData)) p, cs.Perm bs → OrdD cs → H p = none → Q (.ref p) (upd H p (.lst (cs.map (·.1))))) := by
  intro pins s σ H xs us Q I r h
  obtain ⟨a, bs, rfl, hs, hD, hal, hk, hu, q⟩ := h
  obtain ⟨its, rv, hl, hz⟩ := I.list hs
  rw [Vals.ref1 r]
  rw [List.length_map] at hz
  refine PySem.W.sorted_data (R := fun (v : Value) (b : V × PyData) => RelV b.1 v) (enc := fun b : V × PyData => b.2) hl.isList (each_vals rv) (each_reads I rv hD) hal hk hz hu fun out hlo hout => ?_
  obtain ⟨ep, he'⟩ := sortedAll_at s.heap its out.toArray
  have hp : (bs.mergeSort (PySem.W.dataLe false (fun b : V × PyData => b.2))).Perm bs := List.mergeSort_perm _ _
  refine ⟨.ref _, upd H (s.heap.objs.size + 1) (.lst ((bs.mergeSort (PySem.W.dataLe false (fun b : V × PyData => b.2))).map (·.1))), I.laid (t' := s.toks) (fun _ _ => sortedAll_old) (Nat.le_succ _) ⟨?_, out, ep, vals_each hout, he'⟩, rfl, q _ _ hp (ord_sort bs) (I.hok.fresh (Nat.le_succ _))⟩
  rw [List.length_map, hp.length_eq]
  exact hz
theorem paired_len {α β : Type} {R : α → β → Prop} : ∀ {as : List α} {bs : List β}, Paired R as bs → as.length = bs.length
  | _, _, .nil => rfl
  | _, _, .cons _ t => by rw [List.length_cons, List.length_cons, paired_len t]
/-- a key as data -/
def keyD : List Key → List PyData
  | [] => []
  | .inl n :: r => .int n :: keyD r
  | .inr z :: r => .str z :: keyD r
theorem keyD_dp {K : PySem.W.Frag} {H : Hp} : ∀ k : List Key, DpAll K H (k.map kV) (keyD k)
  | [] => .nil
  | .inl n :: r => .cons (.int n) (keyD_dp r)
  | .inr z :: r => .cons (.str z) (keyD_dp r)
/-- sorted(d), d a dict with tuples of texts and ints as keys: those keys, somehow arranged -/
theorem cr_sortedT (hc : X.calm = true) : CallR X (.builtin "sorted") (fun xs H Q => ∃ (d : Addr) (kvs : List (List Key × V)), xs = [.ref d] ∧ Rd H d (.dT kvs) ∧ PySem.W.AllAlike (kvs.map fun kv => .tuple (keyD kv.1)) ∧ (∀ kv ∈ kvs, kv.1 ≠ []) ∧ (∀ kv ∈ kvs, X.A.units + 10 + (PyData.tuple (keyD kv.1)).depth < cLine) ∧
    ∀ (cs : List (V × PyData)) p, (cs.map (·.2)).Perm (kvs.map fun kv => .tuple (keyD kv.1)) → (∀ c ∈ cs, Dp X.K H c.1 c.2) → OrdD cs → H p = none → Q (.ref p) (upd H p (.lst (cs.map (·.1))))) := by
  intro pins s σ H xs us Q I r h
  obtain ⟨d, kvs, rfl, hd, hal, hne, hu, q⟩ := h
  rw [Vals.ref1 r]
  obtain ⟨z, hs, ks, pr, o, es, ep, ho, hx, hdt, he, hn⟩ := (show ObjOk X.prog X.w H s.heap d (.dT kvs) from hd.ok I.hok)
  have l1 : es.size = ks.length := size_of_entries he
  have l2 : kvs.length = ks.length := Paired.length pr
  refine Calls.call_function_entry kind_sorted plain_sorted entry_sorted (args_sorted1 _) ?_
  unfold Builtin.«sorted»
  refine wpAny_bind (m := checkCount "sorted" 1 1 _) (wpAny_pure ?_)
  refine wpAny_bind (PySem.W.kdu_collect (A := X.A.in1) (kdl_raw hs hx hdt) (I.ok.hd hc) ho (by omega) fun h' tk acc' kp it => ?_)
  have ea : acc'.toList = ks.map fun x => Value.ref x.2.1 := by
    have hl : acc'.toList.length = ks.length := by rw [Array.length_toList, it.1]; exact l1
    apply List.ext_getElem?
    intro j
    rw [List.getElem?_map]
    cases hj : acc'.toList[j]? with
    | none =>
      have h1 := List.getElem?_eq_none_iff.mp hj
      rw [List.getElem?_eq_none (by omega)]
      all_goals rfl
    | some v =>
      obtain ⟨en, hen, hv⟩ := it.2 j v (by rw [← Array.getElem?_toList]; exact hj)
      have qe := entry_at he j
      rw [hen] at qe
      cases hb : ks[j]? with
      | none =>
        rw [hb] at qe
        exact nomatch (show some en = none from qe)
      | some b =>
        rw [hb] at qe
        have e2 : en = entryOfKey (tupleKind (mixKind X.prog X.w)) b := Option.some.inj qe
        rw [hv, e2]
        all_goals rfl
  have eb : acc'.toList = (ks.map fun x => x.2.1).map Value.ref := by rw [ea, List.map_map]; all_goals rfl
  have rv : Vals ((ks.map fun x => x.2.1).map V.ref) acc'.toList := by rw [eb]; exact L2.vals_refs _
  have pk := isKeys_of pr
  have key : ∀ (kvs : List (List Key × V)) (bs : List Addr), IsKeys H kvs bs → ∃ cs : List (V × PyData), cs.map (·.1) = bs.map V.ref ∧ cs.map (·.2) = kvs.map (fun kv => PyData.tuple (keyD kv.1)) ∧ ∀ c ∈ cs, Dp X.K H c.1 c.2 := by
    intro kvs bs h
    unfold IsKeys at h
    induction h with
    | nil => exact ⟨[], rfl, rfl, fun c hc => by simp at hc⟩
    | @cons a b as bs h t ih =>
      obtain ⟨cs, e1, e2, e3⟩ := ih
      refine ⟨(.ref b, .tuple (keyD a.1)) :: cs, by rw [List.map_cons, List.map_cons, e1], by rw [List.map_cons, List.map_cons, e2], fun c hc => ?_⟩
      rcases List.mem_cons.mp hc with z | z
      · rw [z]; exact Dp.tup (SqT.of h) (keyD_dp a.1)
      · exact e3 c z
  obtain ⟨bs, e1, e2, e3⟩ := key _ _ pk
  rw [← e1] at rv
  have I1 : Inv X pins σ H { s with heap := h', toks := tk } := I.kept kp
  have hbl : bs.length = kvs.length := by
    have q := congrArg List.length e2
    rw [List.length_map, List.length_map] at q
    exact q
  have hL : bs.length ≤ sizeLine := by rw [hbl]; omega
  have hal2 : acc'.toList.length ≤ sizeLine := by rw [← rv.length, List.length_map]; exact hL
  refine wpAny_bind (wpAny_newList ?_ hal2)
  have hoL : (h'.push (seqObj "list" acc'.toList.toArray 0)).get? h'.objs.size = some (seqObj "list" acc'.toList.toArray 0) := Heap.get?_push_size _ rfl
  show wpAny _ _ _ _ _ { s with heap := h'.push (seqObj "list" acc'.toList.toArray 0), toks := tk }
  have er : PySem.W.EachIs (fun (v : Value) (b : V × PyData) => ∃ as, Reads (h'.push (seqObj "list" acc'.toList.toArray 0)) v b.2 as ∧ h'.objs.size ∉ as) acc'.toList bs :=
    (each_reads I1 rv e3).mono fun v b ⟨as, rd⟩ => ⟨as, Reads.keeps (fun _ _ e => Heap.get?_push_of_some _ e) rd, fun hm => Nat.lt_irrefl _ (reads_lt rd _ hm)⟩
  have hal3 : PySem.W.AllAlike (bs.map (·.2)) := by rw [e2]; exact hal
  have hsrt : PySem.W.Sortable (bs.map (·.2)) := .inl fun dd hdd => by
    rw [e2] at hdd
    obtain ⟨kv, hkv, rfl⟩ := List.mem_map.mp hdd
    cases ek : kv.1 with
    | nil => exact absurd ek (hne kv hkv)
    | cons x r =>
      cases x with
      | inl n => exact ⟨_, _, rfl⟩
      | inr n => exact ⟨_, _, rfl⟩
  refine wpAny_bind (wpAny_holding (PySem.W.list_sort_data (R := fun (v : Value) (b : V × PyData) => RelV b.1 v) (enc := fun b : V × PyData => b.2) (s := { s with heap := h'.push (seqObj "list" acc'.toList.toArray 0), toks := tk }) hoL (each_vals rv) er hal3 hsrt hL (fun b hb => ?_) fun out hlo hout => ?_))
  · have hb' : b.2 ∈ kvs.map (fun kv => PyData.tuple (keyD kv.1)) := by rw [← e2]; exact List.mem_map.mpr ⟨b, hb, rfl⟩
    obtain ⟨kv, hkv, ekv⟩ := List.mem_map.mp hb'
    have := hu kv hkv
    rw [ekv] at this
    show X.A.units + 1 + 1 + b.2.depth < cLine
    omega
  obtain ⟨e', he'⟩ := sortedHeap_at (vs := acc'.toList) (out := out.toArray) hoL
  have hp : (bs.mergeSort (PySem.W.dataLe false (fun b : V × PyData => b.2))).Perm bs := List.mergeSort_perm _ _
  refine wpAny_pure ⟨_, rfl, .ref h'.objs.size, upd H h'.objs.size (.lst ((bs.mergeSort (PySem.W.dataLe false (fun b : V × PyData => b.2))).map (·.1))), I1.laid (t' := tk) (fun b u e => ?_) (Nat.le_refl _)
    ⟨by rw [List.length_map, hp.length_eq]; exact hL, out, e', vals_each hout, he'⟩, rfl, q _ _ (by rw [← e2]; exact hp.map _) (fun c hcc => e3 c (hp.mem_iff.mp hcc)) (ord_sort bs) (I1.hok.fresh (Nat.le_refl _))⟩
  have hb : b < h'.objs.size := Heap.lt_size e
  rw [sortedHeap_old (Nat.ne_of_lt hb) (by rw [size_push']; exact Nat.lt_succ_of_lt hb)]
  exact Heap.get?_push_of_some _ e
end
end K76
set_option maxHeartbeats 200000
set_option Elab.async false
set_option linter.all false
set_option maxRecDepth 100000
set_option maxHeartbeats 4000000
/-! Rules that the layer lacks, sixth part: a starred dict in a display, list(d.values()), a call with keywords alone. -/
namespace K76
open PySem PySem.Spec PyProof.Rows L2
section
variable {X : Cx} {pins : List (Addr × Obj)} {σ : L2.St} {H : Hp} {s : Shared}
theorem star_dk {a : Addr} {kvs : List (Key × V)} {E : Value → Shared → Prop} {Q : List Value → Shared → Prop} (hc : X.calm = true) (I : Inv X pins σ H s) (h : Rd H a (.dK kvs)) (hQ : ∀ us s', Inv X pins σ H s' → Vals (kvs.map fun kv => kV kv.1) us → Q us s') : PySem.W.StarOf (model X.prog X.w) X.A E (.ref a) Q s := by
  obtain ⟨z, lo, vs, rel, dd⟩ := dk_rd I.hok h
  obtain ⟨ep, hat⟩ := dd.dictAt
  have ek : (kvs.map fun kv => kV kv.1) = vs.map fun p => kV p.1 := by
    have e := congrArg (List.map kV) rel.keys
    rw [List.map_map, List.map_map] at e
    exact e
  have zz : wpAny (model X.prog X.w) X.A (collect (.ref a)) Q E s := by
    refine PySem.W.kdu_collect (PySem.W.kdl_dict (knd := mixKind X.prog X.w) (kvs := vs) (ep := ep) lo) (I.ok.hd hc) hat (by rw [← rel.length]; exact z) fun h' tk acc hk hacc => ?_
    have hv : Vals (vs.map fun p => kV p.1) acc.toList := keys_at (by rw [Array.length_toList]; exact hacc.1) fun j v e => hacc.2 j v (by rw [← Array.getElem?_toList]; exact e)
    exact hQ _ _ (I.kept (t' := tk) hk) (by rw [ek]; exact hv)
  unfold PySem.W.StarOf notIterableAtAll
  exact wpAny_bind (wpAny_specialOf dd.typeIs PySem.F.slot_dict_iter.lookup (wpAny_pure ⟨rfl, zz⟩))
end
/-- *d in a display: its keys -/
def tStarD (te : TE) (t : TA) : TA := fun σ H Q => te σ H fun x H1 => ∃ p kvs, x = V.ref p ∧ Rd H1 p (.dK kvs) ∧ t σ H1 fun ys H2 => Q ((kvs.map fun kv => kV kv.1) ++ ys) H2
section
variable {X : Cx} {CX : CXT} {k i : Nat} {f C : Addr} {fd : FuncData} {ps ks : List Str} {sp : Sp} {E : XK} {x m : Str} {e o : Expr} {es : List Expr} {kws : List Keyword} {te ta : TE} {t tk : TA} {p sp_ pos apos cpos : Pos} {g : List Value → List Value → List Value} {gV : List V → List V → List V}
theorem pa_starD (hc : X.calm = true) (he : PE X e te) (hr : PA X es t) (hs : starEach (.Starred e p :: es) X.env = (true, eval e X.env) :: starEach es X.env := by rfl) : PA X (.Starred e p :: es) (tStarD te t) := by
  refine ⟨fun pos pins s σ H Q I h => ?_⟩
  refine PySem.W.items_star (thn (he.run pins s σ H _ I h) fun v s1 ⟨y, H1, I1, ry, a, kvs, ey, hx, q⟩ => ?_) hs
  subst ey
  obtain rfl : v = Value.ref a := ry
  refine star_dk hc I1 hx fun us s2 I2 rv => ?_
  exact thn (hr.run pos pins s2 σ H1 _ I2 q) fun ws s3 ⟨vs, H3, I3, r3, q3⟩ => ⟨(kvs.map fun kv => kV kv.1) ++ vs, H3, I3, rv.append r3, q3⟩
theorem kv_vals {K : Type} : ∀ {kvs : List (K × V)} {vs : List (K × Value)}, KV kvs vs → Vals (kvs.map (·.2)) (vs.map (·.2))
  | _, _, .nil => .nil
  | _, _, .cons h t => .cons h.2 (kv_vals t)
/-- list(d.values()) -/
def tListVals (te : TE) : TE := fun σ H Q => te σ H fun x H1 => ∃ (d : Addr) (kvs : List (Key × V)), x = .ref d ∧ Rd H1 d (.dK kvs) ∧ ∀ p, H1 p = none → Q (.ref p) (upd H1 p (.lst (kvs.map (·.2))))
theorem pe_listVals (hc : X.calm = true) (he : PE X e te) (hg : Gl X "list") (hm : X.mg "list" = none) (hv : bootBuiltins "list" = some (.type "list") := by decide +kernel) (hbase : attributeBase e "values" X.env (eval e X.env) = eval e X.env := by rfl) (hline : (apos.endLine == cpos.line) = true := by rfl)
    (hs : starEach [.Call (.Attribute e "values" apos) [] [] cpos] X.env = (false, eval (.Call (.Attribute e "values" apos) [] [] cpos) X.env) :: starEach [] X.env := by rfl) :
    PE X (.Call (.Name "list" p) [.Call (.Attribute e "values" apos) [] [] cpos] [] pos) (tListVals te) := by
  refine ⟨fun pins s σ H Q I hq => ?_⟩
  refine wpAny_Call_Name_kw (ld_blt I hg hm hv ?_)
  refine PyProof.Rows.callWith_type1 ?_ hs rfl
  rw [hs]
  show wpAny _ _ (spliced ((false, eval (.Call (.Attribute e "values" apos) [] [] cpos) X.env) :: backTo pos (starEach [] X.env))) _ _ s
  refine Calls.spliced_cons ?_
  refine wpAny_Call_method (T := "dict") (id := "dict.values") hbase rfl hline F.plainAttrs_dict F.slot_dict_values F.type_dict_values (thn (he.run pins s σ H _ I hq) fun u s1 ⟨x, H1, I1, rx, d, kvs, ex, hd, q⟩ => ?_)
  subst ex
  obtain rfl : u = Value.ref d := rx
  obtain ⟨hz, hs0, vs, kv, hdo⟩ := dk_rd I1.hok hd
  obtain ⟨ep, hat⟩ := hdo.dictAt
  have lk : kvs.length = vs.length := Paired.length kv
  have I2 : Inv X pins σ H1 { s1 with heap := s1.heap.push { cls := .type "dict_values", data := .fields #[.ref d] } } := I1.kept (t' := s1.toks) fun b ob q => Heap.get?_push_of_some _ q
  refine ⟨hdo.typeIs, hdo.mapOf.noDict, ?_⟩
  show wpAny _ _ (callWith cpos (.builtin "dict.values") [.ref d] [] []) _ X.xe s1
  refine method_meetsIn F.slot_dict_values F.entry_dict_values rfl (PySem.evalArgs_none ⟨rfl, hdo.typeIs, F.args_dict_values_1 _, _, meets_dict_values (mixKind X.prog X.w) d hs0, ⟨vs, hdo⟩, ?_⟩)
  refine Calls.spliced_nil ?_
  refine PySem.W.kdl_call (PySem.W.kdl_values (knd := mixKind X.prog X.w) (kvs := vs) (ep := ep) (r := s1.heap.objs.size) (d := d)) (I1.ok.hd hc) ⟨⟨_, Heap.get?_push_size _ rfl, rfl, rfl⟩, hat.push _⟩ (by omega) fun h' tk acc c hk hS hacc => ?_
  have hv : Vals (kvs.map (·.2)) acc.toList := by
    have e : acc.toList = vs.map (·.2) := by
      apply List.ext_getElem?
      intro j
      rw [List.getElem?_map]
      cases hj : acc.toList[j]? with
      | none =>
        have h1 := List.getElem?_eq_none_iff.mp hj
        rw [Array.length_toList, hacc.1] at h1
        rw [List.getElem?_eq_none h1]
        rfl
      | some v =>
        obtain ⟨k, hk2⟩ := hacc.2 j v (by rw [← Array.getElem?_toList]; exact hj)
        rw [hk2]
        rfl
    rw [e]
    exact kv_vals kv
  exact ⟨.ref _, upd H1 _ (.lst (kvs.map (·.2))), I2.laid (t' := tk) hk (Nat.le_refl _) ⟨by rw [List.length_map]; omega, acc.toList, c, hv, by rw [Array.toArray_toList]; exact hS⟩, rfl, q _ (I2.hok.fresh (Nat.le_refl _))⟩
/-- f(k = v, ..) -/
def tCallK0 (sp : Sp) (gV : List V → List V → List V) (E : XK) (tk : TA) : TE := fun σ H Q => tk σ H fun zs H2 => sp (gV [] zs) H2 Q E
theorem pe_callK0 (F : FnOk X.prog X.w X.K X.mg X.base CX k f fd ps sp) (hr : Room k X.A) (hg : Gl X x) (hm : X.mg x = some (.ref f)) (hk : PySem.W.keepIn X.K (.ref f) = true) (hb : KBinds X.K fd ps ks g gV) (hx : Passes CX X E)
    (hkw : PK X kws tk) (hall : (backToKw pos (keywordEach kws X.env)).all (·.1.isSome) = true := by rfl) (hks : (backToKw pos (keywordEach kws X.env)).filterMap (·.1) = ks := by rfl)
    (hdb : (x == ("__debug__" : Str)) = false := by decide)
    (hpl : ((backTo pos (starEach [] X.env)).any (·.1) || (backToKw pos (keywordEach kws X.env)).any (·.1.isNone)) = false := by rfl) :
    PE X (.Call (.Name x p) [] kws pos) (tCallK0 sp gV E tk) := by
  refine ⟨fun pins s σ H Q I h => ?_⟩
  refine wpAny_Call_Name_kw (ld_glob I hg hm ?_ hdb)
  refine PySem.W.callWith_KW0 (h₀ := X.base) I.ok.mod.kin hk hall ?_ hpl
  refine thn (hkw.run pos pins s σ H _ I h) fun ws s2 ⟨zs, H2, I2, rz, q2⟩ => ⟨I2.kIn, ?_⟩
  rw [hks]
  exact run_fnk F hr hb hx I2 (us := []) .nil rz q2
end
end K76
set_option maxHeartbeats 200000
set_option Elab.async false
set_option linter.all false
set_option maxRecDepth 100000
/-! Data: rows, pairs and triples as they stand in the heap, what stays of them. -/
namespace K76
open PySem PySem.Spec PyProof.Rows L2
/-! ### data -/
def dRow (xs : List Str) : PyData := .tuple (xs.map .str)
def dPair (e : Str × Str) : PyData := .tuple [.str e.1, .str e.2]
def dTri (t : Str × Str × Int) : PyData := .tuple [.str t.1, .str t.2.1, .int t.2.2]
def dTris (ts : List (Str × Str × Int)) : PyData := .tuple (ts.map dTri)
def dRows (xs : List (List Str)) : List PyData := xs.map dRow
section
variable {K : PySem.W.Frag} {H H' : Hp}
theorem dp_str {v : V} {x : Str} (h : Dp K H v (.str x)) : v = .str x := by cases h; rfl
theorem dp_int {v : V} {x : Int} (h : Dp K H v (.int x)) : v = .int x := by cases h; rfl
theorem dp_tup {v : V} {ds : List PyData} (h : Dp K H v (.tuple ds)) : ∃ a xs, v = .ref a ∧ SqT K H a xs ∧ DpAll K H xs ds := by
  cases h with
  | tup h1 h2 => exact ⟨_, _, rfl, h1, h2⟩
theorem dp_lst {v : V} {ds : List PyData} (h : Dp K H v (.list ds)) : ∃ a xs, v = .ref a ∧ SqL K H a xs ∧ DpAll K H xs ds := by
  cases h with
  | lst h1 h2 => exact ⟨_, _, rfl, h1, h2⟩
theorem dpAll_strs : ∀ {vs : List V} {xs : List Str}, DpAll K H vs (xs.map .str) → vs = xs.map V.str
  | _, [], .nil => rfl
  | _, x :: xs, .cons h t => by rw [dp_str h, dpAll_strs t]; rfl
theorem strs_dp : ∀ xs : List Str, DpAll K H (xs.map V.str) (xs.map .str)
  | [] => .nil
  | x :: xs => .cons (.str x) (strs_dp xs)
theorem dp_row {v : V} {xs : List Str} (h : Dp K H v (dRow xs)) : ∃ a, v = .ref a ∧ SqT K H a (xs.map V.str) := by
  obtain ⟨a, vs, e, h1, h2⟩ := dp_tup h
  rw [dpAll_strs h2] at h1
  exact ⟨a, e, h1⟩
theorem row_dp {a : Addr} {xs : List Str} (h : SqT K H a (xs.map V.str)) : Dp K H (.ref a) (dRow xs) := .tup h (strs_dp xs)
theorem dp_pair {v : V} {e : Str × Str} (h : Dp K H v (dPair e)) : ∃ a, v = .ref a ∧ SqT K H a [.str e.1, .str e.2] := dp_row (xs := [e.1, e.2]) h
theorem pair_dp {a : Addr} {e : Str × Str} (h : SqT K H a [.str e.1, .str e.2]) : Dp K H (.ref a) (dPair e) := row_dp (xs := [e.1, e.2]) h
theorem dp_tri {v : V} {t : Str × Str × Int} (h : Dp K H v (dTri t)) : ∃ a, v = .ref a ∧ SqT K H a [.str t.1, .str t.2.1, .int t.2.2] := by
  obtain ⟨a, vs, e, h1, h2⟩ := dp_tup h
  cases h2 with
  | cons x1 r => cases r with
    | cons x2 r => cases r with
      | cons x3 r =>
        cases r
        rw [dp_str x1, dp_str x2, dp_int x3] at h1
        exact ⟨a, e, h1⟩
theorem tri_dp {a : Addr} {t : Str × Str × Int} (h : SqT K H a [.str t.1, .str t.2.1, .int t.2.2]) : Dp K H (.ref a) (dTri t) := .tup h (.cons (.str _) (.cons (.str _) (.cons (.int _) .nil)))
theorem dpAll_len {vs : List V} {ds : List PyData} (h : DpAll K H vs ds) : vs.length = ds.length := dpAll_length h
theorem dpAll_at : ∀ {vs : List V} {ds : List PyData} {i : Nat} {v : V}, DpAll K H vs ds → vs[i]? = some v → ∃ d, ds[i]? = some d ∧ Dp K H v d := fun h e => dpAll_get h e
theorem dpAll_at' : ∀ {vs : List V} {ds : List PyData} {i : Nat} {d : PyData}, DpAll K H vs ds → ds[i]? = some d → ∃ v, vs[i]? = some v ∧ Dp K H v d
  | _, _, _, _, .nil, e => by simp at e
  | _, _, 0, _, .cons h t, e => by
    simp at e
    subst e
    exact ⟨_, rfl, h⟩
  | _, _, i + 1, _, .cons h t, e => by
    obtain ⟨v, h1, h2⟩ := dpAll_at' t (show _[i]? = _ from by simpa using e)
    exact ⟨v, by simpa using h1, h2⟩
theorem dpAll_app : ∀ {vs ws : List V} {ds es : List PyData}, DpAll K H vs ds → DpAll K H ws es → DpAll K H (vs ++ ws) (ds ++ es)
  | _, _, _, _, .nil, h => h
  | _, _, _, _, .cons a t, h => .cons a (dpAll_app t h)
theorem dpAll_rev : ∀ {vs : List V} {ds : List PyData}, DpAll K H vs ds → DpAll K H vs.reverse ds.reverse
  | _, _, .nil => .nil
  | _, _, .cons a t => by
    rw [List.reverse_cons, List.reverse_cons]
    exact dpAll_app (dpAll_rev t) (.cons a .nil)
theorem dpAll_map {α : Type} (f : α → V) (g : α → PyData) : ∀ (cs : List α), (∀ c ∈ cs, Dp K H (f c) (g c)) → DpAll K H (cs.map f) (cs.map g)
  | [], _ => .nil
  | c :: cs, h => .cons (h c List.mem_cons_self) (dpAll_map f g cs fun d hd => h d (List.mem_cons_of_mem _ hd))
theorem map_dpAll : ∀ {vs : List V} {ds : List PyData}, DpAll K H vs ds → ∃ bs : List (V × PyData), bs.map (·.1) = vs ∧ bs.map (·.2) = ds ∧ ∀ b ∈ bs, Dp K H b.1 b.2
  | _, _, .nil => ⟨[], rfl, rfl, fun b hb => by simp at hb⟩
  | _, _, .cons (v := v) (d := d) h t => by
    obtain ⟨bs, e1, e2, e3⟩ := map_dpAll t
    refine ⟨(v, d) :: bs, by rw [List.map_cons, e1], by rw [List.map_cons, e2], fun b hb => ?_⟩
    rcases List.mem_cons.mp hb with z | z
    · rw [z]; exact h
    · exact e3 b z
/-! ### what stays -/
theorem Same.tup' {a : Addr} {xs : List V} (e : Same H H') (h : SqT K H a xs) : SqT K H' a xs := by
  rcases h with (h | ⟨o, h⟩) | h
  · exact .inl (.inl (e _ _ h))
  · exact .inl (.inr ⟨o, e _ _ h⟩)
  · exact .inr h
mutual
theorem dp_same (S : Same H H') : ∀ (d : PyData) (v : V), Dp K H v d → Dp K H' v d
  | .none, _, h => by cases h; exact .non
  | .bool b, _, h => by cases h; exact .bl b
  | .int i, _, h => by cases h; exact .int i
  | .str x, _, h => by cases h; exact .str x
  | .list ds, _, h => by
    cases h with
    | lst h1 h2 => exact .lst (S.seq h1) (dpAll_same S ds _ h2)
  | .tuple ds, _, h => by
    cases h with
    | tup h1 h2 => exact .tup (Same.tup' S h1) (dpAll_same S ds _ h2)
  | .dict _, _, h => by cases h
theorem dpAll_same (S : Same H H') : ∀ (ds : List PyData) (vs : List V), DpAll K H vs ds → DpAll K H' vs ds
  | [], _, h => by cases h; exact .nil
  | d :: ds, _, h => by
    cases h with
    | cons h1 h2 => exact .cons (dp_same S d _ h1) (dpAll_same S ds _ h2)
end
/-- all but lists stand as before -/
def Fix (H H' : Hp) : Prop := ∀ b o, H b = some o → (∀ xs, o ≠ .lst xs) → H' b = some o
theorem Fix.refl (H : Hp) : Fix H H := fun _ _ h _ => h
theorem Fix.trans {H2 : Hp} (a : Fix H H') (b : Fix H' H2) : Fix H H2 := fun c o h n => b c o (a c o h n) n
theorem Same.fix (S : Same H H') : Fix H H' := fun b o h _ => S b o h
theorem fix_upd {p : Addr} {xs ys : List V} (h : H p = some (.lst xs)) : Fix H (upd H p (.lst ys)) := fun b o e n => by
  rw [upd_ne]
  · exact e
  · intro z
    subst z
    rw [h] at e
    exact n xs (Option.some.inj e).symm
theorem fix_new {p : Addr} {o : HO} (h : H p = none) : Fix H (upd H p o) := Same.fix fun b x e => by
  rw [upd_ne (ne_of_none e h)]
  exact e
theorem same_upd {p : Addr} {o : HO} (h : H p = none) : Same H (upd H p o) := fun b x e => by
  rw [upd_ne (ne_of_none e h)]
  exact e
theorem Fix.tup {a : Addr} {xs : List V} (e : Fix H H') (h : SqT K H a xs) : SqT K H' a xs := by
  rcases h with (h | ⟨o, h⟩) | h
  · exact .inl (.inl (e _ _ h (fun _ z => by cases z)))
  · exact .inl (.inr ⟨o, e _ _ h (fun _ z => by cases z)⟩)
  · exact .inr h
mutual
def noL : PyData → Bool
  | .list _ => false
  | .tuple xs => noLs xs
  | _ => true
def noLs : List PyData → Bool
  | [] => true
  | x :: xs => noL x && noLs xs
end
mutual
theorem dp_fix (S : Fix H H') : ∀ (d : PyData) (v : V), noL d = true → Dp K H v d → Dp K H' v d
  | .none, _, _, h => by cases h; exact .non
  | .bool b, _, _, h => by cases h; exact .bl b
  | .int i, _, _, h => by cases h; exact .int i
  | .str x, _, _, h => by cases h; exact .str x
  | .list ds, _, n, h => by simp [noL] at n
  | .tuple ds, _, n, h => by
    cases h with
    | tup h1 h2 => exact .tup (S.tup h1) (dpAll_fix S ds _ (by simpa [noL] using n) h2)
  | .dict _, _, _, h => by cases h
theorem dpAll_fix (S : Fix H H') : ∀ (ds : List PyData) (vs : List V), noLs ds = true → DpAll K H vs ds → DpAll K H' vs ds
  | [], _, _, h => by cases h; exact .nil
  | d :: ds, _, n, h => by
    rw [noLs, Bool.and_eq_true] at n
    cases h with
    | cons h1 h2 => exact .cons (dp_fix S d _ n.1 h1) (dpAll_fix S ds _ n.2 h2)
end
theorem noLs_all : ∀ {ds : List PyData}, (∀ d ∈ ds, noL d = true) → noLs ds = true
  | [], _ => rfl
  | d :: ds, h => by rw [noLs, h d List.mem_cons_self, noLs_all fun e he => h e (List.mem_cons_of_mem _ he)]; rfl
theorem noL_row (xs : List Str) : noL (dRow xs) = true := by
  show noLs _ = true
  exact noLs_all fun d hd => by
    obtain ⟨x, _, rfl⟩ := List.mem_map.mp hd
    rfl
theorem noL_tri (t : Str × Str × Int) : noL (dTri t) = true := rfl
theorem noL_tris (ts : List (Str × Str × Int)) : noL (dTris ts) = true := by
  show noLs _ = true
  exact noLs_all fun d hd => by
    obtain ⟨x, _, rfl⟩ := List.mem_map.mp hd
    rfl
end
/-! ### the steps that triples stand for -/
abbrev Tri := Str × Str × Int
def exp (ts : List Tri) : List (Str × Str) := ts.flatMap fun t => List.replicate t.2.2.toNat (t.1, t.2.1)
theorem exp_nil : exp [] = [] := rfl
theorem exp_cons (t : Tri) (ts : List Tri) : exp (t :: ts) = List.replicate t.2.2.toNat (t.1, t.2.1) ++ exp ts := rfl
theorem exp_append (ts us : List Tri) : exp (ts ++ us) = exp ts ++ exp us := List.flatMap_append
theorem exp_one (E : List (Str × Str)) : exp (E.map fun e => (e.1, e.2, (1 : Int))) = E := by
  induction E with
  | nil => rfl
  | cons e E ih =>
    rw [List.map_cons, exp_cons, ih]
    rfl
theorem mem_exp {ts : List Tri} {e : Str × Str} : e ∈ exp ts ↔ ∃ t ∈ ts, (t.1, t.2.1) = e ∧ 0 < t.2.2 := by
  unfold exp
  rw [List.mem_flatMap]
  constructor
  · rintro ⟨t, ht, h⟩
    obtain ⟨h1, h2⟩ := List.mem_replicate.mp h
    exact ⟨t, ht, h2.symm, by omega⟩
  · rintro ⟨t, ht, h1, h2⟩
    exact ⟨t, ht, List.mem_replicate.mpr ⟨by omega, h1.symm⟩⟩
/-- the tally of E: each step once, with its number -/
structure Tally (ts : List Tri) (E : List (Str × Str)) : Prop where
  nd : (ts.map fun t => (t.1, t.2.1)).Nodup
  ct : ∀ t ∈ ts, t.2.2 = (E.count (t.1, t.2.1) : Int) ∧ (t.1, t.2.1) ∈ E
  all : ∀ e ∈ E, ∃ t ∈ ts, (t.1, t.2.1) = e
theorem Tally.perm {ts : List Tri} {E F : List (Str × Str)} (h : Tally ts E) (p : E.Perm F) : Tally ts F :=
  ⟨h.nd, fun t ht => by rw [← p.count_eq, ← p.mem_iff]; exact h.ct t ht, fun e he => h.all e (p.mem_iff.mpr he)⟩
theorem count_exp : ∀ {ts : List Tri}, (ts.map fun t => (t.1, t.2.1)).Nodup → ∀ e, (∀ t ∈ ts, (t.1, t.2.1) = e → (exp ts).count e = t.2.2.toNat) ∧ ((∀ t ∈ ts, (t.1, t.2.1) ≠ e) → (exp ts).count e = 0)
  | [], _, e => ⟨fun t ht => by simp at ht, fun _ => rfl⟩
  | u :: ts, nd, e => by
    rw [List.map_cons, List.nodup_cons] at nd
    obtain ⟨ih1, ih2⟩ := count_exp nd.2 e
    rw [exp_cons, List.count_append, List.count_replicate]
    refine ⟨fun t ht he => ?_, fun h => ?_⟩
    · rcases List.mem_cons.mp ht with z | z
      · subst z
        rw [if_pos (by rw [he]; exact beq_self_eq_true e), ih2 fun t' ht' e' => nd.1 (List.mem_map.mpr ⟨t', ht', by rw [he]; exact e'⟩)]
        rfl
      · have hne : ¬ (u.1, u.2.1) = e := fun z' => nd.1 (List.mem_map.mpr ⟨t, z, by rw [he]; exact z'.symm⟩)
        rw [if_neg (by simpa using hne), ih1 t z he, Nat.zero_add]
    · have hne : ¬ (u.1, u.2.1) = e := h u List.mem_cons_self
      rw [if_neg (by simpa using hne), ih2 fun t ht => h t (List.mem_cons_of_mem _ ht)]
theorem Tally.exp {ts : List Tri} {E : List (Str × Str)} (h : Tally ts E) : (exp ts).Perm E := by
  rw [List.perm_iff_count]
  intro e
  obtain ⟨h1, h2⟩ := count_exp h.nd e
  by_cases he : e ∈ E
  · obtain ⟨t, ht, et⟩ := h.all e he
    rw [h1 t ht et, (h.ct t ht).1, et]
    exact Int.toNat_natCast _
  · rw [h2 fun t ht et => he (et ▸ (h.ct t ht).2), List.count_eq_zero_of_not_mem he]
theorem Tally.len {ts : List Tri} {E : List (Str × Str)} (h : Tally ts E) : ts.length ≤ E.length := by
  have p := h.exp.length_eq
  have key : ∀ us : List Tri, (∀ t ∈ us, 0 < t.2.2) → us.length ≤ (K76.exp us).length := by
    intro us
    induction us with
    | nil => intro _; exact Nat.zero_le _
    | cons u us ih =>
      intro hp
      rw [exp_cons, List.length_append, List.length_replicate, List.length_cons]
      have h1 := hp u List.mem_cons_self
      have h2 := ih fun t ht => hp t (List.mem_cons_of_mem _ ht)
      omega
  rw [← p]
  exact key ts fun t ht => by
    rw [(h.ct t ht).1]
    have := List.count_pos_iff.mpr (h.ct t ht).2
    omega
/-! ### sums -/
def sumAt (L : List (Str × Int)) (p : Str) : Int := ((L.filter fun x => decide (x.1 = p)).map (·.2)).sum
theorem sumAt_nil (p : Str) : sumAt [] p = 0 := rfl
theorem sumAt_cons (x : Str × Int) (L : List (Str × Int)) (p : Str) : sumAt (x :: L) p = (if x.1 = p then x.2 else 0) + sumAt L p := by
  unfold sumAt
  rw [List.filter_cons]
  by_cases h : x.1 = p
  · rw [if_pos (by simpa using h), if_pos h, List.map_cons, List.sum_cons]
  · rw [if_neg (by simpa using h), if_neg h, Int.zero_add]
theorem sumAt_append (L M : List (Str × Int)) (p : Str) : sumAt (L ++ M) p = sumAt L p + sumAt M p := by
  induction L with
  | nil => rw [List.nil_append, sumAt_nil, Int.zero_add]
  | cons x L ih => rw [List.cons_append, sumAt_cons, sumAt_cons, ih, Int.add_assoc]
theorem outs_replicate (n : Nat) (e : Str × Str) (p : Str) : outs (List.replicate n e) p = if e.1 = p then n else 0 := by
  unfold outs
  rw [List.countP_replicate]
  simp
theorem inns_replicate (n : Nat) (e : Str × Str) (p : Str) : inns (List.replicate n e) p = if e.2 = p then n else 0 := by
  unfold inns
  rw [List.countP_replicate]
  simp
theorem sum_outs : ∀ (ts : List Tri), (∀ t ∈ ts, 0 ≤ t.2.2) → ∀ p, sumAt (ts.map fun t => (t.1, t.2.2)) p = (outs (exp ts) p : Int)
  | [], _, p => rfl
  | t :: ts, h, p => by
    have ih := sum_outs ts (fun t ht => h t (List.mem_cons_of_mem _ ht)) p
    have h0 := h t List.mem_cons_self
    rw [List.map_cons, sumAt_cons, ih, exp_cons, outs_append, outs_replicate, Int.natCast_add]
    by_cases e : t.1 = p
    · rw [if_pos e, if_pos e, Int.toNat_of_nonneg h0]
    · rw [if_neg e, if_neg e]; rfl
theorem sum_inns : ∀ (ts : List Tri), (∀ t ∈ ts, 0 ≤ t.2.2) → ∀ p, sumAt (ts.map fun t => (t.2.1, t.2.2)) p = (inns (exp ts) p : Int)
  | [], _, p => rfl
  | t :: ts, h, p => by
    have ih := sum_inns ts (fun t ht => h t (List.mem_cons_of_mem _ ht)) p
    have h0 := h t List.mem_cons_self
    rw [List.map_cons, sumAt_cons, ih, exp_cons, inns_append, inns_replicate, Int.natCast_add]
    by_cases e : t.2.1 = p
    · rw [if_pos e, if_pos e, Int.toNat_of_nonneg h0]
    · rw [if_neg e, if_neg e]; rfl
/-- a dict of sums -/
structure SumsOk (kvs : List (Key × V)) (L : List (Str × Int)) : Prop where
  nd : (kvs.map (·.1)).Nodup
  ks : ∀ k ∈ kvs, ∃ p, k.1 = Sum.inr p
  vv : ∀ p, valV kvs (Sum.inr p) = if p ∈ L.map (·.1) then some (.int (sumAt L p)) else none
  len : kvs.length ≤ L.length
/-- the table -/
structure TabOk (kvs : List (List Key × V)) (E : List (Str × Str)) : Prop where
  nd : (kvs.map (·.1)).Nodup
  ks : ∀ k ∈ kvs, ∃ a b, k.1 = [Sum.inr a, Sum.inr b]
  vv : ∀ a b, valV kvs [Sum.inr a, Sum.inr b] = if 0 < E.count (a, b) then some (.int (E.count (a, b))) else none
  len : kvs.length ≤ E.length
theorem TabOk.perm {kvs : List (List Key × V)} {E F : List (Str × Str)} (h : TabOk kvs E) (p : E.Perm F) : TabOk kvs F :=
  ⟨h.nd, h.ks, fun a b => by rw [← p.count_eq]; exact h.vv a b, by rw [← p.length_eq]; exact h.len⟩
end K76
set_option Elab.async false
set_option linter.all false
set_option maxRecDepth 100000
/-! The text: each def, its names by slot. Printed by wip/gent.py. -/
namespace K76
open PySem PySem.Spec PyProof.Rows L2
def top (i : Nat) : Stmt := PySem.Challenge.pw_countedsteps_k76_whole_sure_beginnings.main.body.getD i (.Pass ⟨0, 0, 0, 0⟩)
abbrev sTidy : Stmt := top 7
abbrev sSetOf : Stmt := top 8
abbrev sStepsOf : Stmt := top 10
abbrev sInit : Stmt := inClass (top 12) 0
abbrev sStart : Stmt := inClass (top 12) 1
abbrev sSteps : Stmt := inClass (top 12) 2
abbrev sPlaces : Stmt := inClass (top 12) 3
abbrev sOf : Stmt := inClass (top 12) 6
abbrev sBegun : Stmt := inClass (top 12) 7
abbrev sOuts : Stmt := inClass (top 12) 8
abbrev sIns : Stmt := inClass (top 12) 9
abbrev sNexts : Stmt := inClass (top 12) 10
abbrev sGetItem : Stmt := inClass (top 12) 14
abbrev sSub : Stmt := inClass (top 12) 18
abbrev sTableOf : Stmt := top 13
abbrev sSumsOf : Stmt := top 14
abbrev sSurplus : Stmt := top 18
abbrev sPieces : Stmt := top 19
abbrev sWhyNone : Stmt := top 20
abbrev sIsHad : Stmt := top 21
abbrev sNeed : Stmt := top 22
abbrev sEndOf : Stmt := top 23
abbrev sTurned : Stmt := top 24
abbrev sGone : Stmt := top 25
abbrev sOpenS : Stmt := top 26
abbrev sSureB : Stmt := top 28
abbrev sSureE : Stmt := top 29
abbrev sLBox : Stmt := top 31
abbrev sLTake : Stmt := top 32
abbrev sLCells : Stmt := top 33
abbrev sLOf : Stmt := top 34
abbrev sLPick : Stmt := top 35
abbrev sLSame : Stmt := top 36
abbrev sLTags : Stmt := top 37
abbrev sLWalk : Stmt := top 38
abbrev sLTally : Stmt := top 39
abbrev sLLess : Stmt := top 40
abbrev sLAll : Stmt := top 41
abbrev sLShared : Stmt := top 42
abbrev sLGoes : Stmt := top 43
abbrev sLHand : Stmt := top 44
abbrev sLRight : Stmt := top 45
abbrev sLLaw : Stmt := top 46
theorem scTidy : FnScope ["thing", "part"] ["thing"] (defScope sTidy) := ⟨rfl, rfl, rfl, by decide +kernel, rfl, by decide +kernel, by decide +kernel⟩
theorem scSetOf : FnScope ["things"] ["things"] (defScope sSetOf) := ⟨rfl, rfl, rfl, by decide +kernel, rfl, by decide +kernel, by decide +kernel⟩
theorem scStepsOf : FnScope ["journey", "row"] ["journey"] (defScope sStepsOf) := ⟨rfl, rfl, rfl, by decide +kernel, rfl, by decide +kernel, by decide +kernel⟩
theorem scInit : FnScope ["self", "start", "steps", "one", "other"] ["self", "start", "steps"] (defScope sInit) := ⟨rfl, rfl, rfl, by decide +kernel, rfl, by decide +kernel, by decide +kernel⟩
theorem scStart : FnScope ["self"] ["self"] (defScope sStart) := ⟨rfl, rfl, rfl, by decide +kernel, rfl, by decide +kernel, by decide +kernel⟩
theorem scSteps : FnScope ["self"] ["self"] (defScope sSteps) := ⟨rfl, rfl, rfl, by decide +kernel, rfl, by decide +kernel, by decide +kernel⟩
theorem scPlaces : FnScope ["self"] ["self"] (defScope sPlaces) := ⟨rfl, rfl, rfl, by decide +kernel, rfl, by decide +kernel, by decide +kernel⟩
theorem scOf : FnScope ["journey", "one", "other"] ["journey"] (defScope sOf) := ⟨rfl, rfl, rfl, by decide +kernel, rfl, by decide +kernel, by decide +kernel⟩
theorem scBegun : FnScope ["self", "place"] ["self", "place"] (defScope sBegun) := ⟨rfl, rfl, rfl, by decide +kernel, rfl, by decide +kernel, by decide +kernel⟩
theorem scOuts : FnScope ["self", "place"] ["self", "place"] (defScope sOuts) := ⟨rfl, rfl, rfl, by decide +kernel, rfl, by decide +kernel, by decide +kernel⟩
theorem scIns : FnScope ["self", "place"] ["self", "place"] (defScope sIns) := ⟨rfl, rfl, rfl, by decide +kernel, rfl, by decide +kernel, by decide +kernel⟩
theorem scNexts : FnScope ["self", "place", "one", "other"] ["self", "place"] (defScope sNexts) := ⟨rfl, rfl, rfl, by decide +kernel, rfl, by decide +kernel, by decide +kernel⟩
theorem scGetItem : FnScope ["self", "step"] ["self", "step"] (defScope sGetItem) := ⟨rfl, rfl, rfl, by decide +kernel, rfl, by decide +kernel, by decide +kernel⟩
theorem scSub : FnScope ["self", "other", "one", "two", "many"] ["self", "other"] (defScope sSub) := ⟨rfl, rfl, rfl, by decide +kernel, rfl, by decide +kernel, by decide +kernel⟩
theorem scTableOf : FnScope ["steps", "one", "other", "many", "found"] ["steps"] (defScope sTableOf) := ⟨rfl, rfl, rfl, by decide +kernel, rfl, by decide +kernel, by decide +kernel⟩
theorem scSumsOf : FnScope ["steps", "side", "found", "step"] ["steps", "side"] (defScope sSumsOf) := ⟨rfl, rfl, rfl, by decide +kernel, rfl, by decide +kernel, by decide +kernel⟩
theorem scSurplus : FnScope ["counts", "found", "place", "more"] ["counts"] (defScope sSurplus) := ⟨rfl, rfl, rfl, by decide +kernel, rfl, by decide +kernel, by decide +kernel⟩
theorem scPieces : FnScope ["counts", "lots", "one", "other", "many", "least", "most", "place", "lot"] ["counts"] (defScope sPieces) := ⟨rfl, rfl, rfl, by decide +kernel, rfl, by decide +kernel, by decide +kernel⟩
theorem scWhyNone : FnScope ["counts", "place", "more", "own", "lot"] ["counts"] (defScope sWhyNone) := ⟨rfl, rfl, rfl, by decide +kernel, rfl, by decide +kernel, by decide +kernel⟩
theorem scIsHad : FnScope ["counts"] ["counts"] (defScope sIsHad) := ⟨rfl, rfl, rfl, by decide +kernel, rfl, by decide +kernel, by decide +kernel⟩
theorem scNeed : FnScope ["counts"] ["counts"] (defScope sNeed) := ⟨rfl, rfl, rfl, by decide +kernel, rfl, by decide +kernel, by decide +kernel⟩
theorem scEndOf : FnScope ["counts", "ends", "place", "more"] ["counts"] (defScope sEndOf) := ⟨rfl, rfl, rfl, by decide +kernel, rfl, by decide +kernel, by decide +kernel⟩
theorem scTurned : FnScope ["counts", "one", "other", "many"] ["counts"] (defScope sTurned) := ⟨rfl, rfl, rfl, by decide +kernel, rfl, by decide +kernel, by decide +kernel⟩
theorem scGone : FnScope ["counts", "place"] ["counts", "place"] (defScope sGone) := ⟨rfl, rfl, rfl, by decide +kernel, rfl, by decide +kernel, by decide +kernel⟩
theorem scOpenS : FnScope ["counts", "place"] ["counts"] (defScope sOpenS) := ⟨rfl, rfl, rfl, by decide +kernel, rfl, by decide +kernel, by decide +kernel⟩
theorem scSureB : FnScope ["counts", "found", "left"] ["counts"] (defScope sSureB) := ⟨rfl, rfl, rfl, by decide +kernel, rfl, by decide +kernel, by decide +kernel⟩
theorem scSureE : FnScope ["counts"] ["counts"] (defScope sSureE) := ⟨rfl, rfl, rfl, by decide +kernel, rfl, by decide +kernel, by decide +kernel⟩
theorem scLBox : FnScope ["_law_script", "_law_k", "_law_cell"] ["_law_script", "_law_k"] (defScope sLBox) := ⟨rfl, rfl, rfl, by decide +kernel, rfl, by decide +kernel, by decide +kernel⟩
theorem scLTake : FnScope ["_law_box_here", "_law_below", "_law_digit_so", "_law_once", "_law_odd", "_law_twice"] ["_law_box_here", "_law_below"] (defScope sLTake) := ⟨rfl, rfl, rfl, by decide +kernel, rfl, by decide +kernel, by decide +kernel⟩
theorem scLCells : FnScope ["_law_script", "_law_most_so", "_law_cells_here", "_law_k", "_law_cell", "_law_at_so"] ["_law_script", "_law_most_so"] (defScope sLCells) := ⟨rfl, rfl, rfl, by decide +kernel, rfl, by decide +kernel, by decide +kernel⟩
theorem scLOf : FnScope ["_law_box_here", "_law_some"] ["_law_box_here", "_law_some"] (defScope sLOf) := ⟨rfl, rfl, rfl, by decide +kernel, rfl, by decide +kernel, by decide +kernel⟩
theorem scLPick : FnScope ["_law_box_here", "_law_pool_so", "_law_many_so", "_law_rest", "_law_found", "_law_turn"] ["_law_box_here", "_law_pool_so", "_law_many_so"] (defScope sLPick) := ⟨rfl, rfl, rfl, by decide +kernel, rfl, by decide +kernel, by decide +kernel⟩
theorem scLSame : FnScope ["_law_got", "_law_due", "_law_mine", "_law_its"] ["_law_got", "_law_due"] (defScope sLSame) := ⟨rfl, rfl, rfl, by decide +kernel, rfl, by decide +kernel, by decide +kernel⟩
theorem scLTags : FnScope ["_law_box_here", "_law_many_so", "_law_kind_so"] ["_law_box_here", "_law_many_so"] (defScope sLTags) := ⟨rfl, rfl, rfl, by decide +kernel, rfl, by decide +kernel, by decide +kernel⟩
theorem scLWalk : FnScope ["_law_box_here", "_law_tags_here", "_law_most_so", "_law_row_so", "_law_turn", "_law_near", "_law_back_so", "_law_tag"] ["_law_box_here", "_law_tags_here", "_law_most_so"] (defScope sLWalk) := ⟨rfl, rfl, rfl, by decide +kernel, rfl, by decide +kernel, by decide +kernel⟩
theorem scLTally : FnScope ["_law_row_so", "_law_pairs_so", "_law_found", "_law_own"] ["_law_row_so"] (defScope sLTally) := ⟨rfl, rfl, rfl, by decide +kernel, rfl, by decide +kernel, by decide +kernel⟩
theorem scLLess : FnScope ["_law_rows_so", "_law_own", "_law_found", "_law_bit", "_law_many_so"] ["_law_rows_so", "_law_own"] (defScope sLLess) := ⟨rfl, rfl, rfl, by decide +kernel, rfl, by decide +kernel, by decide +kernel⟩
theorem scLAll : FnScope ["_law_first_so", "_law_rows_so", "_law_found", "_law_rest", "_law_trail", "_law_left_so", "_law_own"] ["_law_first_so", "_law_rows_so"] (defScope sLAll) := ⟨rfl, rfl, rfl, by decide +kernel, rfl, by decide +kernel, by decide +kernel⟩
theorem scLShared : FnScope ["_law_all_so", "_law_far", "_law_own"] ["_law_all_so"] (defScope sLShared) := ⟨rfl, rfl, rfl, by decide +kernel, rfl, by decide +kernel, by decide +kernel⟩
theorem scLGoes : FnScope ["_law_row_so", "_law_far", "_law_tag", "_law_left_so", "_law_found", "_law_more_so", "_law_own", "_law_near", "_law_bit"] ["_law_row_so", "_law_far", "_law_tag"] (defScope sLGoes) := ⟨rfl, rfl, rfl, by decide +kernel, rfl, by decide +kernel, by decide +kernel⟩
theorem scLHand : FnScope ["_law_more", "_law_got", "_law_due", "_law_fork", "_law_ring_so"] [] (defScope sLHand) := ⟨rfl, rfl, rfl, by decide +kernel, rfl, by decide +kernel, by decide +kernel⟩
theorem scLRight : FnScope ["_law_box_here", "_law_row_so", "_law_all_so", "_law_due", "_law_long", "_law_heard", "_law_back_so", "_law_far", "_law_left_so", "_law_tags_here", "_law_many_so", "_law_own", "_law_tag"] ["_law_box_here"] (defScope sLRight) := ⟨rfl, rfl, rfl, by decide +kernel, rfl, by decide +kernel, by decide +kernel⟩
theorem scLLaw : FnScope ["_law_script", "_law_cells_here", "_law_k", "_law_box_here", "_law_turn"] ["_law_script"] (defScope sLLaw) := ⟨rfl, rfl, rfl, by decide +kernel, rfl, by decide +kernel, by decide +kernel⟩
end K76
set_option Elab.async false
set_option linter.all false
set_option maxRecDepth 100000
/-! The walk, first part: tidy, set_of, steps_of. -/
namespace K76
open PySem PySem.Spec PyProof.Rows L2
/-- the built-ins as the module has left them -/
structure Bn (mg : Str → Option Value) : Prop where
  isi : mg "isinstance" = none
  tuple : mg "tuple" = none
  list : mg "list" = none
  sorted : mg "sorted" = none
  set : mg "set" = none
  zip : mg "zip" = none
  len : mg "len" = none
  int : mg "int" = none
  abs : mg "abs" = none
  range : mg "range" = none
  min : mg "min" = none
  all : mg "all" = none
  enumerate : mg "enumerate" = none
  bool : mg "bool" = none
  str : mg "str" = none
section
variable {K : PySem.W.Frag} {H : Hp} {a : Addr} {xs : List V}
theorem tyx_seqL (h : SqL K H a xs) : TyX K H (.ref a) (.type "list") := by
  rcases h with (h | ⟨o, h⟩) | ⟨o, its, n, h1, h2, _⟩
  · exact .base (.lst h)
  · exact .base (.frz h)
  · exact .kList h1 h2
theorem tyx_seqT (h : SqT K H a xs) : TyX K H (.ref a) (.type "tuple") := by
  rcases h with (h | ⟨o, h⟩) | ⟨o, its, n, h1, h2, _⟩
  · exact .base (.tup h)
  · exact .fTuple h
  · exact .kTuple h1 h2
end
theorem any_lt {t : String} {b : Bool} (h1 : kitB t "list" = some false) (h2 : kitB t "tuple" = some b) {K : PySem.W.Frag} : PySem.W.kitAny K (.type t) [.type "list", .type "tuple"] = some b := by
  refine kitAny_cons (kit_ty h1) (fun _ => kitAny_cons (kit_ty h2) (fun e => by rw [e]; exact kitAny_nil) (fun e => e)) (fun e => by cases e)
theorem any_list {K : PySem.W.Frag} : PySem.W.kitAny K (.type "list") [.type "list", .type "tuple"] = some true := kitAny_cons (b := true) (kit_ty (by decide +kernel)) (fun e => by cases e) (fun _ => rfl)
/-! ### tidy -/
mutual
def tid : PyData → PyData
  | .list ds => .tuple (tids ds)
  | .tuple ds => .tuple (tids ds)
  | d => d
def tids : List PyData → List PyData
  | [] => []
  | d :: ds => tid d :: tids ds
end
theorem tids_map : ∀ ds : List PyData, tids ds = ds.map tid
  | [] => by simp [tids]
  | d :: ds => by rw [tids, tids_map ds]; rfl
/-- ints and texts, and lists and tuples of such, n deep -/
def TLv : Nat → PyData → Prop
  | 0, d => (∃ x, d = .str x) ∨ ∃ i, d = .int i
  | n + 1, d => TLv n d ∨ ∃ ds, (d = .list ds ∨ d = .tuple ds) ∧ ∀ x ∈ ds, TLv n x
theorem TLv.noL : ∀ {n : Nat} {d : PyData}, TLv n d → noL (tid d) = true
  | 0, _, .inl ⟨x, e⟩ => by subst e; simp [tid, K76.noL]
  | 0, _, .inr ⟨x, e⟩ => by subst e; simp [tid, K76.noL]
  | n + 1, _, .inl h => TLv.noL h
  | n + 1, _, .inr ⟨ds, e, h⟩ => by
    have key : noLs (tids ds) = true := by
      rw [tids_map]
      refine noLs_all fun d hd => ?_
      obtain ⟨x, hx, rfl⟩ := List.mem_map.mp hd
      exact TLv.noL (h x hx)
    rcases e with e | e
    · rw [e, tid, K76.noL]; exact key
    · rw [e, tid, K76.noL]; exact key
theorem tid_str (x : Str) : tid (.str x) = .str x := by simp [tid]
theorem tid_int (x : Int) : tid (.int x) = .int x := by simp [tid]
theorem tid_tup (ds : List PyData) : tid (.tuple ds) = .tuple (ds.map tid) := by rw [tid, tids_map]
theorem tid_lst (ds : List PyData) : tid (.list ds) = .tuple (ds.map tid) := by rw [tid, tids_map]
theorem tid_row (xs : List Str) : tid (dRow xs) = dRow xs := by
  show tid (.tuple (xs.map .str)) = .tuple (xs.map .str)
  rw [tid_tup, List.map_map]
  exact congrArg PyData.tuple (List.map_congr_left fun x _ => tid_str x)
theorem tid_tri (t : Tri) : tid (dTri t) = dTri t := by
  show tid (.tuple [.str t.1, .str t.2.1, .int t.2.2]) = _
  rw [tid_tup]
  simp only [List.map_cons, List.map_nil, tid_str, tid_int]
  rfl
theorem tid_tris (ts : List Tri) : tid (dTris ts) = dTris ts := by
  show tid (.tuple (ts.map dTri)) = .tuple (ts.map dTri)
  rw [tid_tup, List.map_map]
  exact congrArg PyData.tuple (List.map_congr_left fun x _ => tid_tri x)
theorem tid_trisL (ts : List Tri) : tid (.list (ts.map dTri)) = dTris ts := by
  rw [tid_lst, List.map_map]
  show _ = PyData.tuple (ts.map dTri)
  exact congrArg PyData.tuple (List.map_congr_left fun x _ => tid_tri x)
theorem lv_row (xs : List Str) : TLv 1 (dRow xs) := .inr ⟨_, .inr rfl, fun d hd => by
  obtain ⟨x, _, rfl⟩ := List.mem_map.mp hd
  exact .inl ⟨x, rfl⟩⟩
theorem lv_tri (t : Tri) : TLv 1 (dTri t) := .inr ⟨_, .inr rfl, fun d hd => by
  rcases List.mem_cons.mp hd with z | hd
  · exact .inl ⟨_, z⟩
  rcases List.mem_cons.mp hd with z | hd
  · exact .inl ⟨_, z⟩
  rcases List.mem_cons.mp hd with z | hd
  · exact .inr ⟨_, z⟩
  simp at hd⟩
theorem lv_tris (ts : List Tri) : TLv 2 (dTris ts) := .inr ⟨_, .inr rfl, fun d hd => by
  obtain ⟨x, _, rfl⟩ := List.mem_map.mp hd
  exact lv_tri x⟩
theorem lv_trisL (ts : List Tri) : TLv 2 (.list (ts.map dTri)) := .inr ⟨_, .inl rfl, fun d hd => by
  obtain ⟨x, _, rfl⟩ := List.mem_map.mp hd
  exact lv_tri x⟩
def spTidy (K : PySem.W.Frag) (n : Nat) : Sp := fun vs H Q _ => ∃ v d, vs = [v] ∧ Dp K H v d ∧ TLv n d ∧ ∀ v' H', Same H H' → Dp K H' v' (tid d) → Q v' H'
section
variable {P : Program} {w : World} {K : PySem.W.Frag} {mg : Str → Option Value} {base : Heap}
theorem take_snoc {α : Type} {xs : List α} {i : Nat} {x : α} (h : xs[i]? = some x) : xs.take (i + 1) = xs.take i ++ [x] := by
  rw [List.take_add_one, h]; rfl
theorem dpAll_size {K : PySem.W.Frag} {H : Hp} {a : Addr} {xs : List V} {X : Cx} {pins : List (Addr × Obj)} {σ : L2.St} {s : Shared} (I : Inv X pins σ H s) (h : SqL X.K H a xs ∨ SqT X.K H a xs) : xs.length ≤ sizeLine := by
  rcases h with h | h
  · exact (I.list h).choose_spec.2.2
  · exact (I.tuple h).choose_spec.2.2
/-- sizes: what can be a list's or a tuple's length -/
def SzOk : Nat → PyData → Prop
  | 0, _ => True
  | n + 1, d => SzOk n d ∧ ∀ ds, (d = .list ds ∨ d = .tuple ds) → ds.length < 10000 ∧ ∀ x ∈ ds, SzOk n x
def spTidy' (K : PySem.W.Frag) (n : Nat) : Sp := fun vs H Q _ => ∃ v d, vs = [v] ∧ Dp K H v d ∧ TLv n d ∧ SzOk n d ∧ ∀ v' H', Same H H' → Dp K H' v' (tid d) → Q v' H'
theorem ok_tidy {f : Addr} {fd : FuncData} (F : Fun K "tidy" "tidy" sTidy f fd) (B : Bn mg) (bT : Binds K fd ["thing"] []) (gT : mg "tidy" = some (.ref f)) : ∀ n, FnOk P w K mg base CX0 (n + 1) f fd ["thing"] (spTidy' K n) := by
  intro n
  induction n with
  | zero =>
    refine F.ok scTidy (fun vs H Q E h => ?_) (fun cdv A outer s H vs Q E hr h => ?_)
    · obtain ⟨v, d, rfl, _⟩ := h
      rfl
    · obtain ⟨v, d, rfl, hD, hL, _, q⟩ := h
      refine ⟨_, pss_cons (ps_if (pt_val (pe_callB call_isiT (by rfl) B.isi (by decide +kernel) (pa_cons (pv 0) (pa_cons (pe_tup (pa_cons (pe_bltn (v := .ty "list") (by rfl) B.list (by decide +kernel) rfl) (pa_cons (pe_bltn (v := .ty "tuple") (by rfl) B.tuple (by decide +kernel) rfl) pa_nil))) pa_nil))))
        (pss_one ps_never) pss_nil) (pss_one (ps_ret (pv 0))), ?_⟩
      refine ⟨v, rfl, by show 2 ≤ sizeLine; decide, fun T nT => ?_⟩
      have ty : ∃ t, TyX K (upd H T (.tup [.ty "list", .ty "tuple"])) v (.type t) ∧ kitB t "list" = some false ∧ kitB t "tuple" = some false := by
        rcases hL with ⟨x, e⟩ | ⟨x, e⟩
        · rw [e] at hD; rw [dp_str hD]; exact ⟨"str", .base (.str x), by decide +kernel, by decide +kernel⟩
        · rw [e] at hD; rw [dp_int hD]; exact ⟨"int", .base (.int x), by decide +kernel, by decide +kernel⟩
      obtain ⟨t, ty, k1, k2⟩ := ty
      refine ⟨v, T, [.ty "list", .ty "tuple"], .type t, [.type "list", .type "tuple"], false, rfl, upd_same, .cons (.ty _) (.cons (.ty _) .nil), ty, any_lt k1 k2, false, rfl, ?_⟩
      refine iteF ⟨v, rfl, ?_⟩
      have e : tid d = d := by
        rcases hL with ⟨x, e⟩ | ⟨x, e⟩
        · rw [e, tid_str]
        · rw [e, tid_int]
      exact q v _ (same_upd nT) (by rw [e]; exact dp_same (same_upd nT) _ _ hD)
  | succ n ih =>
    refine F.ok scTidy (fun vs H Q E h => ?_) (fun cdv A outer s H vs Q E hr h => ?_)
    · obtain ⟨v, d, rfl, _⟩ := h
      rfl
    · obtain ⟨v, d, rfl, hD, hL, hZ, q⟩ := h
      by_cases lf : (∃ x, d = .str x) ∨ ∃ i, d = .int i
      · -- a leaf
        refine ⟨_, pss_cons (ps_if (pt_val (pe_callB call_isiT (by rfl) B.isi (by decide +kernel) (pa_cons (pv 0) (pa_cons (pe_tup (pa_cons (pe_bltn (v := .ty "list") (by rfl) B.list (by decide +kernel) rfl) (pa_cons (pe_bltn (v := .ty "tuple") (by rfl) B.tuple (by decide +kernel) rfl) pa_nil))) pa_nil))))
          (pss_one ps_never) pss_nil) (pss_one (ps_ret (pv 0))), ?_⟩
        refine ⟨v, rfl, by show 2 ≤ sizeLine; decide, fun T nT => ?_⟩
        have ty : ∃ t, TyX K (upd H T (.tup [.ty "list", .ty "tuple"])) v (.type t) ∧ kitB t "list" = some false ∧ kitB t "tuple" = some false := by
          rcases lf with ⟨x, e⟩ | ⟨x, e⟩
          · rw [e] at hD; rw [dp_str hD]; exact ⟨"str", .base (.str x), by decide +kernel, by decide +kernel⟩
          · rw [e] at hD; rw [dp_int hD]; exact ⟨"int", .base (.int x), by decide +kernel, by decide +kernel⟩
        obtain ⟨t, ty, k1, k2⟩ := ty
        refine ⟨v, T, [.ty "list", .ty "tuple"], .type t, [.type "list", .type "tuple"], false, rfl, upd_same, .cons (.ty _) (.cons (.ty _) .nil), ty, any_lt k1 k2, false, rfl, ?_⟩
        refine iteF ⟨v, rfl, ?_⟩
        have e : tid d = d := by
          rcases lf with ⟨x, e⟩ | ⟨x, e⟩
          · rw [e, tid_str]
          · rw [e, tid_int]
        exact q v _ (same_upd nT) (by rw [e]; exact dp_same (same_upd nT) _ _ hD)
      · have hd : ∃ ds, (d = .list ds ∨ d = .tuple ds) ∧ ∀ x ∈ ds, TLv n x := by
          have key : ∀ (n : Nat) (d : PyData), ¬ ((∃ x, d = .str x) ∨ ∃ i, d = .int i) → TLv n d → ∃ m ds, m < n ∧ (d = .list ds ∨ d = .tuple ds) ∧ ∀ x ∈ ds, TLv m x := by
            intro n
            induction n with
            | zero => intro d h1 h2; exact absurd h2 h1
            | succ n ih =>
              intro d h1 h2
              rcases h2 with h2 | ⟨ds, h3, h4⟩
              · obtain ⟨m, ds, z, r⟩ := ih d h1 h2
                exact ⟨m, ds, Nat.lt_succ_of_lt z, r⟩
              · exact ⟨n, ds, Nat.lt_succ_self _, h3, h4⟩
          obtain ⟨m, ds, hm, e, hx⟩ := key (n + 1) d lf hL
          refine ⟨ds, e, fun x hx' => ?_⟩
          have lift : ∀ (m n : Nat) (x : PyData), m ≤ n → TLv m x → TLv n x := by
            intro m n x hmn h
            induction hmn with
            | refl => exact h
            | step _ ih => exact .inl ih
          exact lift m n x (by omega) (hx x hx')
        obtain ⟨ds, hd, hx⟩ := hd
        obtain ⟨hsz, hzx⟩ := hZ.2 ds hd
        have hr1 : Room (n + 1) _ := hr
        rcases hd with rfl | rfl
        · obtain ⟨a, xs, rfl, hS, hA⟩ := dp_lst hD
          refine ⟨_, pss_cons (ps_if (pt_val (pe_callB call_isiT (by rfl) B.isi (by decide +kernel) (pa_cons (pv 0) (pa_cons (pe_tup (pa_cons (pe_bltn (v := .ty "list") (by rfl) B.list (by decide +kernel) rfl) (pa_cons (pe_bltn (v := .ty "tuple") (by rfl) B.tuple (by decide +kernel) rfl) pa_nil))) pa_nil))))
            (pss_one (ps_ret (pe_callTy call_tuple_of (by rfl) B.tuple (by decide +kernel) (pa_cons (pe_lc (own := [("part", 1)]) (g := gName 1) (tt := tYes) (by rfl) scTidy.nd (pi_list (pv 0)) (blkOk_by (own := [("part", 1)]) (N := ["thing", "part"]) (sc := defScope sTidy) (by decide +kernel)) (fun _ _ _ _ _ => pg_name (i := 1) scTidy.nd rfl (Or.inl rfl)) (fun _ _ _ _ _ => pts_nil)
              (fun _ _ _ _ _ => pe_call ih hr1 (by rfl) gT F.kp bT .nil pass0 (pa_cons (pv 1) pa_nil))) pa_nil)))) pss_nil) (pss_one (ps_ret (pv 0))), ?_⟩
          refine ⟨_, rfl, by show 2 ≤ sizeLine; decide, fun T nT => ?_⟩
          have sT := same_upd (o := .tup [.ty "list", .ty "tuple"]) nT
          refine ⟨_, T, [.ty "list", .ty "tuple"], .type "list", [.type "list", .type "tuple"], true, rfl, upd_same, .cons (.ty _) (.cons (.ty _) .nil), tyx_seqL (sT.seq hS), any_list, true, rfl, ?_⟩
          refine iteT ⟨_, rfl, a, rfl, ⟨_, sT.seq hS⟩, fun D nD => ?_⟩
          refine lc_list (K := K) (a := a) (xs := xs) (fun i H' => Same H H' ∧ ∃ acc, H' D = some (.lst acc) ∧ acc.length = i ∧ DpAll K H' acc ((ds.map tid).take i)) ⟨sT.trans (same_upd nD), [], upd_same, rfl, .nil⟩ (fun i H' _ h => h.1.seq hS) ?_ ?_
          · rintro i x H' hi ⟨sH, acc, hacc, hal, hdp⟩
            obtain ⟨e, he, hxe⟩ := dpAll_at hA hi
            refine ⟨rfl, x, rfl, x, e, rfl, dp_same sH _ _ hxe, hx e (List.mem_of_getElem? he), hzx e (List.mem_of_getElem? he), fun v' H2 s2 d2 => ⟨acc, s2 _ _ hacc, ?_, fun b o hb => ?_, acc ++ [v'], upd_same, by rw [List.length_append, hal]; rfl, ?_⟩⟩
            · have hlt := (List.getElem?_eq_some_iff.mp he).1
              rw [hal, sizeLine_eq]; omega
            · have nDH : H D = none := sT.free nD
              rw [upd_ne (ne_of_none hb nDH)]
              exact s2 _ _ (sH _ _ hb)
            · have fx : Fix H2 (upd H2 D (.lst (acc ++ [v']))) := fix_upd (s2 _ _ hacc)
              have hmi : (ds.map tid)[i]? = some (tid e) := by rw [List.getElem?_map, he]; rfl
              rw [take_snoc hmi]
              refine dpAll_app (dpAll_fix fx _ _ (noLs_all fun d hd => ?_) (dpAll_same s2 _ _ hdp)) (.cons (dp_fix fx _ _ (hx e (List.mem_of_getElem? he)).noL d2) .nil)
              obtain ⟨y, hy, rfl⟩ := List.mem_map.mp (List.mem_of_mem_take hd)
              exact (hx y hy).noL
          · rintro H' ⟨sH, acc, hacc, hal, hdp⟩
            refine ⟨D, acc, rfl, .inl ⟨SqL.of hacc, fun l nl => ?_⟩⟩
            have sl := same_upd (o := .tup acc) nl
            have hll : (ds.map tid).take xs.length = ds.map tid := List.take_of_length_le (by rw [List.length_map, dpAll_len hA]; exact Nat.le_refl _)
            rw [hll] at hdp
            exact q (.ref l) _ (sH.trans sl) (by rw [tid_lst]; exact .tup (SqT.of upd_same) (dpAll_same sl _ _ hdp))
        · obtain ⟨a, xs, rfl, hS, hA⟩ := dp_tup hD
          refine ⟨_, pss_cons (ps_if (pt_val (pe_callB call_isiT (by rfl) B.isi (by decide +kernel) (pa_cons (pv 0) (pa_cons (pe_tup (pa_cons (pe_bltn (v := .ty "list") (by rfl) B.list (by decide +kernel) rfl) (pa_cons (pe_bltn (v := .ty "tuple") (by rfl) B.tuple (by decide +kernel) rfl) pa_nil))) pa_nil))))
            (pss_one (ps_ret (pe_callTy call_tuple_of (by rfl) B.tuple (by decide +kernel) (pa_cons (pe_lc (own := [("part", 1)]) (g := gName 1) (tt := tYes) (by rfl) scTidy.nd (pi_tup (pv 0)) (blkOk_by (own := [("part", 1)]) (N := ["thing", "part"]) (sc := defScope sTidy) (by decide +kernel)) (fun _ _ _ _ _ => pg_name (i := 1) scTidy.nd rfl (Or.inl rfl)) (fun _ _ _ _ _ => pts_nil)
              (fun _ _ _ _ _ => pe_call ih hr1 (by rfl) gT F.kp bT .nil pass0 (pa_cons (pv 1) pa_nil))) pa_nil)))) pss_nil) (pss_one (ps_ret (pv 0))), ?_⟩
          refine ⟨_, rfl, by show 2 ≤ sizeLine; decide, fun T nT => ?_⟩
          have sT := same_upd (o := .tup [.ty "list", .ty "tuple"]) nT
          refine ⟨_, T, [.ty "list", .ty "tuple"], .type "tuple", [.type "list", .type "tuple"], true, rfl, upd_same, .cons (.ty _) (.cons (.ty _) .nil), tyx_seqT (Same.tup' sT hS), any_lt (by decide +kernel) (by decide +kernel), true, rfl, ?_⟩
          refine iteT ⟨_, rfl, a, rfl, ⟨_, Same.tup' sT hS⟩, fun D nD => ?_⟩
          refine lc_tup (K := K) (a := a) (xs := xs) (fun i H' => Same H H' ∧ ∃ acc, H' D = some (.lst acc) ∧ acc.length = i ∧ DpAll K H' acc ((ds.map tid).take i)) ⟨sT.trans (same_upd nD), [], upd_same, rfl, .nil⟩ (fun i H' _ h => Same.tup' h.1 hS) ?_ ?_
          · rintro i x H' hi ⟨sH, acc, hacc, hal, hdp⟩
            obtain ⟨e, he, hxe⟩ := dpAll_at hA hi
            refine ⟨rfl, x, rfl, x, e, rfl, dp_same sH _ _ hxe, hx e (List.mem_of_getElem? he), hzx e (List.mem_of_getElem? he), fun v' H2 s2 d2 => ⟨acc, s2 _ _ hacc, ?_, fun b o hb => ?_, acc ++ [v'], upd_same, by rw [List.length_append, hal]; rfl, ?_⟩⟩
            · have hlt := (List.getElem?_eq_some_iff.mp he).1
              rw [hal, sizeLine_eq]; omega
            · have nDH : H D = none := sT.free nD
              rw [upd_ne (ne_of_none hb nDH)]
              exact s2 _ _ (sH _ _ hb)
            · have fx : Fix H2 (upd H2 D (.lst (acc ++ [v']))) := fix_upd (s2 _ _ hacc)
              have hmi : (ds.map tid)[i]? = some (tid e) := by rw [List.getElem?_map, he]; rfl
              rw [take_snoc hmi]
              refine dpAll_app (dpAll_fix fx _ _ (noLs_all fun d hd => ?_) (dpAll_same s2 _ _ hdp)) (.cons (dp_fix fx _ _ (hx e (List.mem_of_getElem? he)).noL d2) .nil)
              obtain ⟨y, hy, rfl⟩ := List.mem_map.mp (List.mem_of_mem_take hd)
              exact (hx y hy).noL
          · rintro H' ⟨sH, acc, hacc, hal, hdp⟩
            refine ⟨D, acc, rfl, .inl ⟨SqL.of hacc, fun l nl => ?_⟩⟩
            have sl := same_upd (o := .tup acc) nl
            have hll : (ds.map tid).take xs.length = ds.map tid := List.take_of_length_le (by rw [List.length_map, dpAll_len hA]; exact Nat.le_refl _)
            rw [hll] at hdp
            exact q (.ref l) _ (sH.trans sl) (by rw [tid_tup]; exact .tup (SqT.of upd_same) (dpAll_same sl _ _ hdp))
end
end K76
set_option Elab.async false
set_option linter.all false
set_option maxRecDepth 100000
/-! The walk, second part: set_of, steps_of, table_of, sums_of. -/
namespace K76
open PySem PySem.Spec PyProof.Rows L2
/-! ### slices -/
theorem cut_from (xs : List V) (k : Nat) : cutV xs (some (k : Int)) none = xs.drop k := by
  unfold cutV
  rw [HT.sIx_nat, HT.sIx_none]
  by_cases h : k ≤ xs.length
  · rw [Nat.min_eq_left h, List.take_of_length_le (by rw [List.length_drop]; exact Nat.le_refl _)]
  · rw [Nat.min_eq_right (by omega), List.drop_eq_nil_of_le (Nat.le_refl _), List.drop_eq_nil_of_le (by omega), List.take_nil]
theorem cut_to (xs : List V) (k : Nat) : cutV xs none (some (k : Int)) = xs.take k := by
  unfold cutV
  rw [HT.sIx_nat, HT.sIx_none, List.drop_zero, Nat.sub_zero]
  by_cases h : k ≤ xs.length
  · rw [Nat.min_eq_left h]
  · rw [Nat.min_eq_right (by omega), List.take_of_length_le (Nat.le_refl _), List.take_of_length_le (by omega)]
theorem cut_all (xs : List V) {lo hi : Option Int} (h : HT.sIx xs.length 0 lo = 0 ∧ HT.sIx xs.length xs.length hi = xs.length) : cutV xs lo hi = xs := by
  unfold cutV
  rw [h.1, h.2, List.drop_zero, Nat.sub_zero, List.take_length]
/-- a tuple's slice, whether it is the tuple itself or a new one -/
theorem sl_any {K : PySem.W.Frag} {H : Hp} {Q : VK} {a : Addr} {xs : List V} {lo hi : Option Int} (h : SqT K H a xs) (q : ∀ p H', Same H H' → SqT K H' p (cutV xs lo hi) → Q (.ref p) H') : rSlA K (.ref a) lo hi H Q :=
  ⟨a, xs, rfl, h, fun w => q a H (Same.refl H) (by rw [cut_all xs w]; exact h), fun _ p np => q p _ (same_upd np) (SqT.of upd_same)⟩
theorem noPart {σ : L2.St} {H : Hp} {Q : Option Int → Hp → Prop} (h : Q none H) : tNoPart σ H Q := h
/-- tuples joined, whatever they are -/
theorem cat_any {K : PySem.W.Frag} {H : Hp} {Q : VK} {a b : Addr} {xs ys : List V} (h1 : SqT K H a xs) (h2 : SqT K H b ys) (hz : xs.length + ys.length ≤ sizeLine) (q : ∀ p H', Same H H' → SqT K H' p (xs ++ ys) → Q (.ref p) H') : rCatA K (.ref a) (.ref b) H Q :=
  ⟨a, b, xs, ys, rfl, rfl, h1, h2, hz, fun e => q b H (Same.refl H) (by rw [e]; exact h2), fun _ e => q a H (Same.refl H) (by rw [e, List.append_nil]; exact h1), fun _ _ p np => q p _ (same_upd np) (SqT.of upd_same)⟩
theorem zipd_pairs {K : PySem.W.Frag} {H : Hp} : ∀ {ts : List Addr} {xs ys : List Str}, Zipd H ts (xs.map V.str) (ys.map V.str) → DpAll K H (ts.map V.ref) ((xs.zip ys).map dPair)
  | [], xs, ys, h => by
    have h1 := h.1
    rw [List.length_nil, List.length_map, List.length_map] at h1
    have : xs.zip ys = [] := by
      apply List.eq_nil_of_length_eq_zero
      rw [List.length_zip]
      omega
    rw [this]
    exact .nil
  | t :: ts, [], ys, h => by
    have h1 := h.1
    simp at h1
  | t :: ts, x :: xs, [], h => by
    have h1 := h.1
    simp at h1
  | t :: ts, x :: xs, y :: ys, h => by
    obtain ⟨x', y', e1, e2, e3⟩ := h.2 0 t rfl
    have e1' : V.str x = x' := by simpa using e1
    have e2' : V.str y = y' := by simpa using e2
    subst e1'
    subst e2'
    refine .cons (pair_dp (e := (x, y)) (SqT.of e3)) (zipd_pairs ⟨?_, fun j t' ht => ?_⟩)
    · have h1 := h.1
      simp only [List.length_cons, List.map_cons] at h1 ⊢
      omega
    · obtain ⟨a, b, f1, f2, f3⟩ := h.2 (j + 1) t' (by simpa using ht)
      exact ⟨a, b, by simpa using f1, by simpa using f2, f3⟩
theorem tri_at {K : PySem.W.Frag} {H : Hp} {xs : List V} {ts : List Tri} (hA : DpAll K H xs (ts.map dTri)) {i : Nat} {x : V} (hx : xs[i]? = some x) : ∃ t p, ts[i]? = some t ∧ t ∈ ts ∧ x = V.ref p ∧ SqT K H p [.str t.1, .str t.2.1, .int t.2.2] := by
  obtain ⟨d, e1, e2⟩ := dpAll_at hA hx
  rw [List.getElem?_map] at e1
  cases et : ts[i]? with
  | none => rw [et] at e1; cases e1
  | some t =>
    rw [et] at e1
    have e1' : dTri t = d := Option.some.inj e1
    subst e1'
    obtain ⟨p, ex, hp⟩ := dp_tri e2
    exact ⟨t, p, rfl, List.mem_of_getElem? et, ex, hp⟩
section
variable {P : Program} {w : World} {K : PySem.W.Frag} {mg : Str → Option Value} {base : Heap}
/-! ### set_of -/
def spSetOf (K : PySem.W.Frag) : Sp := fun vs H Q _ => ∃ a ss, vs = [.ref a] ∧ SqL K H a (List.map V.str ss) ∧ ss.length < 64 ∧
  ∀ p ys H', Same H H' → SqT K H' p (List.map V.str ys) → ys.Nodup → (∀ k, k ∈ ys ↔ k ∈ ss) → ys.length ≤ ss.length → Q (.ref p) H'
theorem ok_setOf {f : Addr} {fd : FuncData} {k : Nat} (F : Fun K "set_of" "set_of" sSetOf f fd) (B : Bn mg) : FnOk P w K mg base CX0 (k + 1) f fd ["things"] (spSetOf K) := by
  refine F.ok scSetOf (fun vs H Q E h => ?_) (fun cdv A outer s H vs Q E hr h => ?_)
  · obtain ⟨a, ss, rfl, _⟩ := h
    rfl
  · obtain ⟨a, ss, rfl, hS, h64, q⟩ := h
    refine ⟨_, pss_one (ps_ret (pe_callTy call_tuple_of (by rfl) B.tuple (by decide +kernel) (pa_cons (pe_callB (cr_sortedSetS rfl) (by rfl) B.sorted (by decide +kernel) (pa_cons (pe_callTy (cr_setS rfl) (by rfl) B.set (by decide +kernel) (pa_cons (pv 0) pa_nil)) pa_nil)) pa_nil))), ?_⟩
    refine ⟨_, rfl, a, ss, rfl, hS, by omega, fun p np => ⟨p, _, _, rfl, upd_same, h64, fun ys p2 nd hm hl _ np2 => ⟨p2, _, rfl, .inl ⟨SqL.of upd_same, fun l nl => ?_⟩⟩⟩⟩
    exact q l ys _ (((same_upd np).trans (same_upd np2)).trans (same_upd nl)) (SqT.of upd_same) nd hm hl
/-! ### steps_of -/
def spStepsOf (K : PySem.W.Frag) : Sp := fun vs H Q _ => ∃ v xs, vs = [v] ∧ Dp K H v (dRow xs) ∧ xs.length < 1000 ∧
  ∀ v' H', Same H H' → Dp K H' v' (.tuple (List.map dPair (xs.zip (xs.drop 1)))) → Q v' H'
theorem ok_stepsOf {f fT : Addr} {fd fdT : FuncData} (F : Fun K "steps_of" "steps_of" sStepsOf f fd) (B : Bn mg) (FT : Fun K "tidy" "tidy" sTidy fT fdT) (bT : Binds K fdT ["thing"] []) (gT : mg "tidy" = some (.ref fT)) :
    FnOk P w K mg base CX0 3 f fd ["journey"] (spStepsOf K) := by
  have GT := ok_tidy (P := P) (w := w) (base := base) FT B bT gT 1
  refine F.ok scStepsOf (fun vs H Q E h => ?_) (fun cdv A outer s H vs Q E hr h => ?_)
  · obtain ⟨v, xs, rfl, _⟩ := h
    rfl
  · obtain ⟨v, xs, rfl, hD, hl, q⟩ := h
    refine ⟨_, pss_cons (ps_set (i := 1) scStepsOf.nd rfl (.inl rfl) (pe_call GT hr (by rfl) gT FT.kp bT .nil pass0 (pa_cons (pv 0) pa_nil)))
      (pss_one (ps_ret (pe_tupZip rfl (by rfl) B.tuple (by rfl) B.zip (pa_cons (pv 1) (pa_cons (pe_slice sl_tupA (pv 1) (po_some pe_int) po_none) pa_nil))))), ?_⟩
    refine ⟨v, rfl, v, dRow xs, rfl, hD, lv_row xs, ⟨trivial, fun ds hds => ?_⟩, fun v' H1 s1 d1 => ?_⟩
    · rcases hds with e | e
      · cases e
      · have e' := PyData.tuple.inj e
        rw [← e', List.length_map]
        exact ⟨by omega, fun _ _ => trivial⟩
    · rw [tid_row] at d1
      obtain ⟨a, rfl, hT⟩ := dp_row d1
      refine ⟨_, rfl, _, rfl, 1, rfl, noPart (sl_any hT fun p H2 s2 h2 => ?_)⟩
      rw [show cutV (xs.map V.str) (some (1 : Int)) none = (xs.drop 1).map V.str by rw [show (1 : Int) = ((1 : Nat) : Int) from rfl, cut_from, List.map_drop]] at h2
      refine ⟨a, p, _, _, rfl, Same.tup' s2 hT, h2, fun H3 t ts s3 nt ht z => ?_⟩
      exact q _ _ ((s1.trans s2).trans s3) (.tup (SqT.of ht) (zipd_pairs z))
/-! ### table_of -/
theorem tab_nil : TabOk [] [] := ⟨List.nodup_nil, fun k hk => by simp at hk, fun a b => rfl, Nat.le_refl _⟩
theorem put_keys {κ : Type} [DecidableEq κ] {kvs : List (κ × V)} {k : κ} {v : V} (h : valV kvs k ≠ none) : (putK kvs k v).map (·.1) = kvs.map (·.1) := by
  unfold putK
  rw [valV_any]
  rw [if_pos (by cases e : valV kvs k with
    | none => exact absurd e h
    | some x => rfl)]
  rw [List.map_map]
  apply List.map_congr_left
  intro x _
  show (if x.1 = k then (x.1, v) else x).1 = x.1
  split <;> rfl
theorem put_nd {κ : Type} [DecidableEq κ] {kvs : List (κ × V)} {k : κ} (v : V) (nd : (kvs.map (·.1)).Nodup) : ((putK kvs k v).map (·.1)).Nodup := by
  cases e : valV kvs k with
  | none => exact nd_putK v nd e
  | some x => rw [put_keys (by rw [e]; simp)]; exact nd
theorem put_len {κ : Type} [DecidableEq κ] (kvs : List (κ × V)) (k : κ) (v : V) : (putK kvs k v).length ≤ kvs.length + 1 := by
  cases e : valV kvs k with
  | none => rw [putK_new _ e, List.length_append]; exact Nat.le_refl _
  | some x =>
    have := congrArg List.length (put_keys (v := v) (by rw [e]; simp : valV kvs k ≠ none))
    rw [List.length_map, List.length_map] at this
    omega
theorem put_mem {κ : Type} [DecidableEq κ] {kvs : List (κ × V)} {k : κ} {v : V} {p : κ × V} (h : p ∈ putK kvs k v) : p.1 = k ∨ ∃ q ∈ kvs, q.1 = p.1 := by
  unfold putK at h
  split at h
  · obtain ⟨q, hq, e⟩ := List.mem_map.mp h
    right
    refine ⟨q, hq, ?_⟩
    rw [← e]
    split <;> rfl
  · rcases List.mem_append.mp h with z | z
    · exact .inr ⟨p, z, rfl⟩
    · rw [List.mem_singleton.mp z]; exact .inl rfl
theorem tab_put {kvs : List (List Key × V)} {E : List (Str × Str)} (T : TabOk kvs E) (a b : Str) (n : Int) (hn : 0 < n) :
    TabOk (putK kvs [Sum.inr a, Sum.inr b] (.int ((E.count (a, b) : Int) + n))) (E ++ List.replicate n.toNat (a, b)) := by
  refine ⟨put_nd _ T.nd, fun k hk => ?_, fun x y => ?_, ?_⟩
  · rcases put_mem hk with e | ⟨q, hq, e⟩
    · exact ⟨a, b, e⟩
    · obtain ⟨x, y, e2⟩ := T.ks q hq
      exact ⟨x, y, by rw [← e]; exact e2⟩
  · rw [valV_put]
    by_cases e : ([Sum.inr x, Sum.inr y] : List Key) = [Sum.inr a, Sum.inr b]
    · rw [if_pos e]
      injection e with e1 e2
      injection e2 with e2 _
      injection e1 with e1
      injection e2 with e2
      subst e1
      subst e2
      have hc : (E ++ List.replicate n.toNat (x, y)).count (x, y) = E.count (x, y) + n.toNat := by
        rw [List.count_append, List.count_replicate, if_pos (beq_self_eq_true _)]
      rw [hc, if_pos (by omega), Int.natCast_add, Int.toNat_of_nonneg (by omega)]
    · have hc : (E ++ List.replicate n.toNat (a, b)).count (x, y) = E.count (x, y) := by
        rw [List.count_append, List.count_replicate, if_neg, Nat.add_zero]
        intro z
        have z' := eq_of_beq z
        injection z' with z1 z2
        exact e (by rw [z1, z2])
      rw [if_neg e, T.vv, hc]
  · rw [List.length_append, List.length_replicate]
    have := put_len kvs [Sum.inr a, Sum.inr b] (.int ((E.count (a, b) : Int) + n))
    have := T.len
    omega
theorem tab_got {kvs : List (List Key × V)} {E : List (Str × Str)} (T : TabOk kvs E) (a b : Str) : (valV kvs [Sum.inr a, Sum.inr b]).getD (.int 0) = .int (E.count (a, b)) := by
  rw [T.vv]
  split
  · rfl
  · rename_i h
    have : E.count (a, b) = 0 := by omega
    rw [this]
    rfl
/-- the steps as they must be: no step stands still, none is counted below zero -/
def StepsIn (ts : List Tri) : Prop := ∀ t ∈ ts, t.1 ≠ t.2.1 ∧ 0 ≤ t.2.2
def spTableOf (K : PySem.W.Frag) : Sp := fun vs H Q _ => ∃ v ts, vs = [v] ∧ Dp K H v (dTris ts) ∧ StepsIn ts ∧ (exp ts).length < 1000 ∧
  ∀ d kvs H', Same H H' → H d = none → H' d = some (.dT kvs) → TabOk kvs (exp ts) → Q (.ref d) H'
theorem str_ne {x y : Str} (h : x ≠ y) : ¬ V.str x = V.str y := fun e => h (V.str.inj e)
theorem ok_tableOf {f : Addr} {fd : FuncData} {k : Nat} (F : Fun K "table_of" "table_of" sTableOf f fd) : FnOk P w K mg base CX0 (k + 1) f fd ["steps"] (spTableOf K) := by
  refine F.ok scTableOf (fun vs H Q E h => ?_) (fun cdv A outer s H vs Q E hr h => ?_)
  · obtain ⟨v, ts, rfl, _⟩ := h
    rfl
  · obtain ⟨v, ts, rfl, hD, hok, hl, q⟩ := h
    have hu := hu_of hr
    obtain ⟨a, xs, rfl, hS, hA⟩ := dp_tup hD
    refine ⟨_, pss_cons (ps_for PassesOwn.never rfl (pi_tup (pv 0)) (pg_tup rfl (pgs_cons (pg_name (i := 1) scTableOf.nd rfl (.inl rfl)) (pgs_cons (pg_name (i := 2) scTableOf.nd rfl (.inl rfl)) (pgs_cons (pg_name (i := 3) scTableOf.nd rfl (.inl rfl)) pgs_nil))))
        (pss_one (ps_if (pt_cmpR op_eq (pv 1) (pv 2) (nomark _)) (pss_one ps_never) pss_nil)))
      (pss_cons (ps_set (i := 4) scTableOf.nd rfl (.inl rfl) pe_dnewT)
      (pss_cons (ps_for PassesOwn.never rfl (pi_tup (pv 0)) (pg_tup rfl (pgs_cons (pg_name (i := 1) scTableOf.nd rfl (.inl rfl)) (pgs_cons (pg_name (i := 2) scTableOf.nd rfl (.inl rfl)) (pgs_cons (pg_name (i := 3) scTableOf.nd rfl (.inl rfl)) pgs_nil))))
        (pss_cons (ps_if (pt_cmpR op_lt (pv 3) pe_int (nomark _)) (pss_one ps_never) pss_nil)
        (pss_one (ps_if (pt_cmpR op_gt (pv 3) pe_int (nomark _)) (pss_one (ps_dput hu (pv 4) (pe_tup (pa_cons (pv 1) (pa_cons (pv 2) pa_nil)))
          (pe_op op_add (pe_dget2 hu (pv 4) (pe_tup (pa_cons (pv 1) (pa_cons (pv 2) pa_nil))) pe_int ⟨rfl, rfl, rfl, rfl⟩) (pv 3)) rfl)) pss_nil))))
      (pss_one (ps_ret (pv 4))))), ?_⟩
    refine ⟨_, rfl, a, rfl, ⟨_, hS⟩, L2.for_tup (K := K) (a := a) (xs := xs) (fun i σ H' => H = H' ∧ ∃ x1 x2 x3, σ = [some (.ref a), x1, x2, x3, none]) ⟨rfl, none, none, none, rfl⟩ (fun i σ H' _ h => by rw [← h.1]; exact hS) ?_ ?_⟩
    · rintro i x σ H' hx ⟨rfl, x1, x2, x3, rfl⟩
      obtain ⟨t, p, _, ht, rfl, hp⟩ := tri_at hA hx
      refine ⟨p, _, rfl, hp, rfl, _, _, rfl, _, _, rfl, _, _, rfl, rfl, ?_⟩
      refine ⟨_, rfl, _, rfl, rfl, _, rfl, ?_⟩
      rw [decide_eq_false (str_ne (hok t ht).1)]
      exact iteF ⟨rfl, _, _, _, rfl⟩
    · rintro σ H' ⟨rfl, x1, x2, x3, rfl⟩
      intro d nd
      refine ⟨_, rfl, a, rfl, ⟨_, Same.tup' (same_upd nd) hS⟩, L2.for_tup (K := K) (a := a) (xs := xs) (fun i σ H' => Same H H' ∧ (∃ kvs, H' d = some (.dT kvs) ∧ TabOk kvs (exp (ts.take i))) ∧ ∃ x1 x2 x3, σ = [some (.ref a), x1, x2, x3, some (.ref d)])
        ⟨same_upd nd, ⟨[], upd_same, tab_nil⟩, x1, x2, x3, rfl⟩ (fun i σ H' _ h => Same.tup' h.1 hS) ?_ ?_⟩
      · rintro i x σ H' hx ⟨sH, ⟨kvs, hd, T⟩, x1, x2, x3, rfl⟩
        obtain ⟨t, p, ei, ht, rfl, hp⟩ := tri_at hA hx
        have hle : (exp (ts.take i)).length < 1000 := by
          have : exp ts = exp (ts.take i) ++ exp (ts.drop i) := by rw [← exp_append, List.take_append_drop]
          rw [this, List.length_append] at hl
          omega
        refine ⟨p, _, rfl, Same.tup' sH hp, rfl, _, _, rfl, _, _, rfl, _, _, rfl, rfl, ?_⟩
        refine ⟨_, rfl, _, _, rfl, rfl, _, rfl, ?_⟩
        rw [decide_eq_false (by have := (hok t ht).2; omega : ¬ t.2.2 < 0)]
        refine iteF ⟨_, rfl, _, _, rfl, rfl, _, rfl, ?_⟩
        by_cases hn : t.2.2 > 0
        · rw [decide_eq_true hn]
          refine iteT ⟨_, rfl, d, rfl, .inr ⟨kvs, .inl hd⟩, _, rfl, _, rfl, by show 2 ≤ sizeLine; decide, fun T1 n1 => ?_⟩
          have hd1 : (upd H' T1 (.tup [.str t.1, .str t.2.1])) d = some (.dT kvs) := by rw [upd_ne (ne_of_none hd n1)]; exact hd
          refine ⟨_, DGet.t (k := [Sum.inr t.1, Sum.inr t.2.1]) hd1 upd_same, ?_⟩
          refine ⟨_, rfl, ((exp (ts.take i)).count (t.1, t.2.1) : Int), t.2.2, tab_got T _ _, rfl, _, rfl, _, rfl, _, rfl, by show 2 ≤ sizeLine; decide, fun T2 n2 => ?_⟩
          have hd2 : (upd (upd H' T1 (.tup [.str t.1, .str t.2.1])) T2 (.tup [.str t.1, .str t.2.1])) d = some (.dT kvs) := by rw [upd_ne (ne_of_none hd1 n2)]; exact hd1
          have hkl : kvs.length < sizeLine := small1000 (by have := T.len; omega)
          refine ⟨d, _, rfl, DPut.t (k := [Sum.inr t.1, Sum.inr t.2.1]) hd2 upd_same hkl, ?_⟩
          refine ⟨fun b o hb => ?_, ⟨_, upd_same, ?_⟩, _, _, _, rfl⟩
          · rw [upd_ne (ne_of_none hb nd)]
            exact same_upd n2 _ _ (same_upd n1 _ _ (sH _ _ hb))
          · rw [take_snoc ei, exp_append, exp_cons, exp_nil, List.append_nil]
            exact tab_put T _ _ _ hn
        · rw [decide_eq_false hn]
          refine iteF ⟨sH, ⟨kvs, hd, ?_⟩, _, _, _, rfl⟩
          rw [take_snoc ei, exp_append, exp_cons, exp_nil, List.append_nil]
          have e0 : t.2.2.toNat = 0 := by omega
          rw [e0, List.replicate_zero, List.append_nil]
          exact T
      · rintro σ H' ⟨sH, ⟨kvs, hd, T⟩, x1, x2, x3, rfl⟩
        have hlen : ts.take xs.length = ts := List.take_of_length_le (by rw [dpAll_len hA, List.length_map]; exact Nat.le_refl _)
        rw [hlen] at T
        exact ⟨_, rfl, q d kvs H' sH nd hd T⟩
/-! ### sums_of -/
theorem sums_nil : SumsOk [] [] := ⟨List.nodup_nil, fun k hk => by simp at hk, fun p => rfl, Nat.le_refl _⟩
theorem sums_put {kvs : List (Key × V)} {L : List (Str × Int)} (T : SumsOk kvs L) (a : Str) (n : Int) : SumsOk (putK kvs (Sum.inr a) (.int (sumAt L a + n))) (L ++ [(a, n)]) := by
  refine ⟨put_nd _ T.nd, fun k hk => ?_, fun p => ?_, ?_⟩
  · rcases put_mem hk with e | ⟨q, hq, e⟩
    · exact ⟨a, e⟩
    · obtain ⟨x, e2⟩ := T.ks q hq
      exact ⟨x, by rw [← e]; exact e2⟩
  · rw [valV_put, List.map_append, sumAt_append, sumAt_cons, sumAt_nil, Int.add_zero]
    by_cases e : p = a
    · subst e
      rw [if_pos rfl, if_pos (by simp), if_pos rfl]
    · rw [if_neg (fun z => e (Sum.inr.inj z)), T.vv, if_neg (fun z : a = p => e z.symm), Int.add_zero]
      by_cases h : p ∈ L.map (·.1)
      · rw [if_pos h, if_pos (by rw [List.mem_append]; exact .inl h)]
      · rw [if_neg h, if_neg (by
          rw [List.mem_append]
          rintro (z | z)
          · exact h z
          · exact e (by simpa using z))]
  · rw [List.length_append]
    have := put_len kvs (Sum.inr a) (.int (sumAt L a + n))
    have := T.len
    show _ ≤ L.length + 1
    omega
theorem sums_got {kvs : List (Key × V)} {L : List (Str × Int)} (T : SumsOk kvs L) (a : Str) : (valV kvs (Sum.inr a)).getD (.int 0) = .int (sumAt L a) := by
  rw [T.vv]
  split
  · rfl
  · rename_i h
    have : sumAt L a = 0 := by
      clear T
      induction L with
      | nil => rfl
      | cons x L ih =>
        rw [List.map_cons, List.mem_cons, not_or] at h
        rw [sumAt_cons, if_neg (fun z => h.1 z.symm), ih h.2]
        rfl
    rw [this]
    rfl
def sideOf (b : Bool) (t : Tri) : Str × Int := (if b = true then t.2.1 else t.1, t.2.2)
def spSumsOf (K : PySem.W.Frag) : Sp := fun vs H Q _ => ∃ v ts b, vs = [v, .int (if b = true then 1 else 0)] ∧ Dp K H v (dTris ts) ∧ ts.length < 1000 ∧
  ∀ d kvs H', Same H H' → H d = none → H' d = some (.dK kvs) → SumsOk kvs (List.map (sideOf b) ts) → Q (.ref d) H'
theorem ok_sumsOf {f : Addr} {fd : FuncData} {k : Nat} (F : Fun K "sums_of" "sums_of" sSumsOf f fd) : FnOk P w K mg base CX0 (k + 1) f fd ["steps", "side"] (spSumsOf K) := by
  refine F.ok scSumsOf (fun vs H Q E h => ?_) (fun cdv A outer s H vs Q E hr h => ?_)
  · obtain ⟨v, ts, b, rfl, _⟩ := h
    rfl
  · obtain ⟨v, ts, b, rfl, hD, hl, q⟩ := h
    have hu := hu_of hr
    obtain ⟨a, xs, rfl, hS, hA⟩ := dp_tup hD
    refine ⟨_, pss_cons (ps_set (i := 2) scSumsOf.nd rfl (.inl rfl) pe_dnewK)
      (pss_cons (ps_for PassesOwn.never rfl (pi_tup (pv 0)) (pg_name (i := 3) scSumsOf.nd rfl (.inl rfl))
        (pss_one (ps_dput hu (pv 2) (pe_ix ix_tup (pv 3) (pv 1) (fun _ _ => rfl))
          (pe_op op_add (pe_dget2 hu (pv 2) (pe_ix ix_tup (pv 3) (pv 1) (fun _ _ => rfl)) pe_int ⟨rfl, rfl, rfl, rfl⟩) (pe_ix ix_tup (pv 3) pe_int (fun _ _ => rfl))) rfl)))
      (pss_one (ps_ret (pv 2)))), ?_⟩
    intro d nd
    refine ⟨_, rfl, a, rfl, ⟨_, Same.tup' (same_upd nd) hS⟩, L2.for_tup (K := K) (a := a) (xs := xs) (fun i σ H' => Same H H' ∧ (∃ kvs, H' d = some (.dK kvs) ∧ SumsOk kvs ((ts.take i).map (sideOf b))) ∧ ∃ x1, σ = [some (.ref a), some (.int (if b = true then 1 else 0)), some (.ref d), x1])
      ⟨same_upd nd, ⟨[], upd_same, sums_nil⟩, none, rfl⟩ (fun i σ H' _ h => Same.tup' h.1 hS) ?_ ?_⟩
    · rintro i x σ H' hx ⟨sH, ⟨kvs, hd, T⟩, x1, rfl⟩
      obtain ⟨t, p, ei, ht, rfl, hp⟩ := tri_at hA hx
      have hp' := Same.tup' sH hp
      have at1 : atI [V.str t.1, .str t.2.1, .int t.2.2] (if b = true then 1 else 0) = some (.str (sideOf b t).1) := by
        cases b
        · exact atI_nat (j := 0) rfl
        · exact atI_nat (j := 1) rfl
      have at2 : atI [V.str t.1, .str t.2.1, .int t.2.2] 2 = some (.int t.2.2) := atI_nat (j := 2) rfl
      refine ⟨_, rfl, d, rfl, .inl ⟨kvs, .inl hd⟩, _, rfl, _, rfl, p, _, _, _, rfl, rfl, hp', at1, _, DGet.k (k := Sum.inr (sideOf b t).1) hd, ?_⟩
      refine ⟨_, rfl, p, _, _, _, rfl, rfl, hp', at2, sumAt ((ts.take i).map (sideOf b)) (sideOf b t).1, t.2.2, sums_got T _, rfl, _, rfl, _, rfl, _, rfl, p, _, _, _, rfl, rfl, hp', at1, ?_⟩
      refine ⟨d, _, rfl, DPut.k (k := Sum.inr (sideOf b t).1) hd (small1000 (by have := T.len; rw [List.length_map, List.length_take] at this; omega)), ?_⟩
      refine ⟨fun c o hb => ?_, ⟨_, upd_same, ?_⟩, _, rfl⟩
      · rw [upd_ne (ne_of_none hb nd)]
        exact sH _ _ hb
      · rw [take_snoc ei, List.map_append]
        exact sums_put T (sideOf b t).1 t.2.2
    · rintro σ H' ⟨sH, ⟨kvs, hd, T⟩, x1, rfl⟩
      have hlen : ts.take xs.length = ts := List.take_of_length_le (by rw [dpAll_len hA, List.length_map]; exact Nat.le_refl _)
      rw [hlen] at T
      exact ⟨_, rfl, q d kvs H' sH nd hd T⟩
end
end K76
set_option Elab.async false
set_option linter.all false
set_option maxRecDepth 100000
/-! The walk, third part: a Counts object and its making. -/
namespace K76
open PySem PySem.Spec PyProof.Rows L2
theorem fk1 : ¬ (("own_start" : Str) = "own_table") := by decide +kernel
theorem fk2 : ¬ (("own_start" : Str) = "own_steps") := by decide +kernel
theorem fk3 : ¬ (("own_start" : Str) = "own_outs") := by decide +kernel
theorem fk4 : ¬ (("own_start" : Str) = "own_ins") := by decide +kernel
theorem fk5 : ¬ (("own_table" : Str) = "own_steps") := by decide +kernel
theorem fk6 : ¬ (("own_table" : Str) = "own_outs") := by decide +kernel
theorem fk7 : ¬ (("own_table" : Str) = "own_ins") := by decide +kernel
theorem fk8 : ¬ (("own_steps" : Str) = "own_outs") := by decide +kernel
theorem fk9 : ¬ (("own_steps" : Str) = "own_ins") := by decide +kernel
theorem fk10 : ¬ (("own_outs" : Str) = "own_ins") := by decide +kernel
def fl2 (s : Str) (tb : Addr) : List (Str × V) := putF "own_table" (.ref tb) (putF "own_start" (.str s) [])
def fl3 (s : Str) (tb : Addr) (st : V) : List (Str × V) := putF "own_steps" st (fl2 s tb)
def fl4 (s : Str) (tb : Addr) (st : V) (os : Addr) : List (Str × V) := putF "own_outs" (.ref os) (fl3 s tb st)
def flds (s : Str) (tb : Addr) (st : V) (os is : Addr) : List (Str × V) := putF "own_ins" (.ref is) (fl4 s tb st os)
section
variable {s : Str} {tb os is : Addr} {st : V}
theorem fl2_table : (fl2 s tb).lookup ("own_table" : Str) = some (.ref tb) := by unfold fl2; rw [lookup_putF, if_pos rfl]
theorem fl3_table : (fl3 s tb st).lookup ("own_table" : Str) = some (.ref tb) := by unfold fl3; rw [lookup_putF, if_neg fk5, fl2_table]
theorem fl3_steps : (fl3 s tb st).lookup ("own_steps" : Str) = some st := by unfold fl3; rw [lookup_putF, if_pos rfl]
theorem fl4_steps : (fl4 s tb st os).lookup ("own_steps" : Str) = some st := by unfold fl4; rw [lookup_putF, if_neg fk8, fl3_steps]
theorem flds_start : (flds s tb st os is).lookup ("own_start" : Str) = some (.str s) := by
  unfold flds fl4 fl3 fl2
  rw [lookup_putF, if_neg fk4, lookup_putF, if_neg fk3, lookup_putF, if_neg fk2, lookup_putF, if_neg fk1, lookup_putF, if_pos rfl]
theorem flds_table : (flds s tb st os is).lookup ("own_table" : Str) = some (.ref tb) := by
  unfold flds fl4
  rw [lookup_putF, if_neg fk7, lookup_putF, if_neg fk6, fl3_table]
theorem flds_steps : (flds s tb st os is).lookup ("own_steps" : Str) = some st := by
  unfold flds
  rw [lookup_putF, if_neg fk9, fl4_steps]
theorem flds_outs : (flds s tb st os is).lookup ("own_outs" : Str) = some (.ref os) := by
  unfold flds fl4
  rw [lookup_putF, if_neg fk10, lookup_putF, if_pos rfl]
theorem flds_ins : (flds s tb st os is).lookup ("own_ins" : Str) = some (.ref is) := by
  unfold flds
  rw [lookup_putF, if_pos rfl]
theorem flds_no {m : Str} (h1 : ¬ m = "own_start") (h2 : ¬ m = "own_table") (h3 : ¬ m = "own_steps") (h4 : ¬ m = "own_outs") (h5 : ¬ m = "own_ins") : (flds s tb st os is).lookup m = none := by
  unfold flds fl4 fl3 fl2
  rw [lookup_putF, if_neg h5, lookup_putF, if_neg h4, lookup_putF, if_neg h3, lookup_putF, if_neg h2, lookup_putF, if_neg h1]
  rfl
end
theorem putF_len (f : Str) (v : V) : ∀ fs : List (Str × V), (putF f v fs).length ≤ fs.length + 1
  | [] => Nat.le_refl _
  | (g, x) :: r => by
    show (if g = f then (g, v) :: r else (g, x) :: putF f v r).length ≤ _
    split
    · exact Nat.le_succ _
    · have := putF_len f v r
      simp only [List.length_cons]
      omega
/-- a Counts object stands at p: it begins at s and has the steps E -/
structure CAt (K : PySem.W.Frag) (C : Addr) (H : Hp) (p : Addr) (s : Str) (E : List (Str × Str)) : Prop where
  ex : ∃ dx tb st os is kt ko ki ts, H p = some (.ins C dx (flds s tb st os is)) ∧ H tb = some (.dT kt) ∧ TabOk kt E ∧ Dp K H st (dTris ts) ∧ Tally ts E ∧
    H os = some (.dK ko) ∧ SumsOk ko (ts.map (sideOf false)) ∧ H is = some (.dK ki) ∧ SumsOk ki (ts.map (sideOf true))
section
variable {K : PySem.W.Frag} {C : Addr} {H H' : Hp} {p : Addr} {s : Str} {E F : List (Str × Str)}
theorem CAt.fix (c : CAt K C H p s E) (f : Fix H H') : CAt K C H' p s E := by
  obtain ⟨dx, tb, st, os, is, kt, ko, ki, ts, h1, h2, h3, h4, h5, h6, h7, h8, h9⟩ := c.ex
  exact ⟨dx, tb, st, os, is, kt, ko, ki, ts, f _ _ h1 (fun _ z => by cases z), f _ _ h2 (fun _ z => by cases z), h3, dp_fix f _ _ (noL_tris ts) h4, h5, f _ _ h6 (fun _ z => by cases z), h7, f _ _ h8 (fun _ z => by cases z), h9⟩
theorem CAt.same (c : CAt K C H p s E) (f : Same H H') : CAt K C H' p s E := c.fix (Same.fix f)
theorem CAt.perm (c : CAt K C H p s E) (q : E.Perm F) : CAt K C H p s F := by
  obtain ⟨dx, tb, st, os, is, kt, ko, ki, ts, h1, h2, h3, h4, h5, h6, h7, h8, h9⟩ := c.ex
  exact ⟨dx, tb, st, os, is, kt, ko, ki, ts, h1, h2, h3.perm q, h4, h5.perm q, h6, h7, h8, h9⟩
end
/-- the class's facts for its making -/
structure CTx (K : PySem.W.Frag) (mg : Str → Option Value) (C : Addr) : Prop where
  cl : Cls K C
  n1 : NoAttr K C "own_start"
  n2 : NoAttr K C "own_table"
  n3 : NoAttr K C "own_steps"
  n4 : NoAttr K C "own_outs"
  n5 : NoAttr K C "own_ins"
  mgC : mg "Counts" = some (.ref C)
/-! ### the keys of a table, sorted -/
def unP : PyData → Str × Str
  | .tuple [.str a, .str b] => (a, b)
  | _ => (Str.empty, Str.empty)
theorem unP_pair (e : Str × Str) : unP (dPair e) = e := rfl
theorem perm_pairs {ds : List PyData} {es : List (Str × Str)} (h : ds.Perm (es.map dPair)) : ∃ fs : List (Str × Str), ds = fs.map dPair ∧ fs.Perm es := by
  refine ⟨ds.map unP, ?_, ?_⟩
  · rw [List.map_map]
    have : ds.map (dPair ∘ unP) = ds.map id := List.map_congr_left fun d hd => by
      obtain ⟨e, _, rfl⟩ := List.mem_map.mp (h.mem_iff.mp hd)
      show dPair (unP (dPair e)) = dPair e
      rw [unP_pair]
    rw [this, List.map_id]
  · have q := h.map unP
    rw [List.map_map] at q
    have : es.map (unP ∘ dPair) = es.map id := List.map_congr_left fun e _ => unP_pair e
    rw [this, List.map_id] at q
    exact q
theorem tab_keys {kvs : List (List Key × V)} {E : List (Str × Str)} (T : TabOk kvs E) : ∃ es : List (Str × Str), kvs.map (·.1) = es.map (fun e => [Sum.inr e.1, Sum.inr e.2]) ∧ es.Nodup ∧ ∀ e, e ∈ es ↔ e ∈ E := by
  have key : ∀ (kvs : List (List Key × V)), (∀ k ∈ kvs, ∃ a b, k.1 = [Sum.inr a, Sum.inr b]) → ∃ es : List (Str × Str), kvs.map (·.1) = es.map (fun e => [Sum.inr e.1, Sum.inr e.2]) := by
    intro kvs
    induction kvs with
    | nil => intro _; exact ⟨[], rfl⟩
    | cons k kvs ih =>
      intro h
      obtain ⟨es, e1⟩ := ih fun k hk => h k (List.mem_cons_of_mem _ hk)
      obtain ⟨a, b, e2⟩ := h k List.mem_cons_self
      exact ⟨(a, b) :: es, by rw [List.map_cons, List.map_cons, e1, e2]⟩
  obtain ⟨es, he⟩ := key kvs T.ks
  refine ⟨es, he, ?_, fun e => ?_⟩
  · have nd := T.nd
    rw [he] at nd
    exact List.Pairwise.imp (fun {a b} h e => h (by rw [e])) (List.pairwise_map.mp nd)
  · have hv := T.vv e.1 e.2
    constructor
    · intro hm
      have h1 : ([Sum.inr e.1, Sum.inr e.2] : List Key) ∈ kvs.map (·.1) := by rw [he]; exact List.mem_map.mpr ⟨e, hm, rfl⟩
      have h2 : (kvs.any fun kv => decide (kv.1 = ([Sum.inr e.1, Sum.inr e.2] : List Key))) = true := by
        obtain ⟨kv, hkv, e2⟩ := List.mem_map.mp h1
        exact List.any_eq_true.mpr ⟨kv, hkv, decide_eq_true e2⟩
      rw [valV_any, hv] at h2
      by_cases c : 0 < E.count (e.1, e.2)
      · exact List.count_pos_iff.mp c
      · rw [if_neg c] at h2; cases h2
    · intro hm
      have c : 0 < E.count (e.1, e.2) := List.count_pos_iff.mpr hm
      have h2 : (kvs.any fun kv => decide (kv.1 = ([Sum.inr e.1, Sum.inr e.2] : List Key))) = true := by
        rw [valV_any, hv, if_pos c]; rfl
      obtain ⟨kv, hkv, e2⟩ := List.any_eq_true.mp h2
      have h1 : ([Sum.inr e.1, Sum.inr e.2] : List Key) ∈ kvs.map (·.1) := List.mem_map.mpr ⟨kv, hkv, of_decide_eq_true e2⟩
      rw [he] at h1
      obtain ⟨f, hf, e3⟩ := List.mem_map.mp h1
      injection e3 with e4 e5
      injection e5 with e5 _
      injection e4 with e4
      injection e5 with e5
      have : f = e := Prod.ext e4 e5
      rw [← this]
      exact hf
def triOf (E : List (Str × Str)) (e : Str × Str) : Tri := (e.1, e.2, (E.count e : Int))
theorem tally_of {E es : List (Str × Str)} (nd : es.Nodup) (h : ∀ e, e ∈ es ↔ e ∈ E) : Tally (es.map (triOf E)) E := by
  refine ⟨?_, fun t ht => ?_, fun e he => ⟨triOf E e, List.mem_map.mpr ⟨e, (h e).2 he, rfl⟩, rfl⟩⟩
  · rw [List.map_map]
    have : es.map ((fun t : Tri => (t.1, t.2.1)) ∘ triOf E) = es.map id := List.map_congr_left fun e _ => rfl
    rw [this, List.map_id]
    exact nd
  · obtain ⟨e, he, rfl⟩ := List.mem_map.mp ht
    exact ⟨rfl, (h e).1 he⟩
theorem depth_pair (e : Str × Str) : (dPair e).depth ≤ 2 := by
  show PyData.depth (.tuple [.str e.1, .str e.2]) ≤ 2
  simp [PyData.depth, PyData.depthAll]
theorem alike_pair (e f : Str × Str) : PySem.W.alike (dPair e) (dPair f) = true := by
  show PySem.W.alike (.tuple [.str e.1, .str e.2]) (.tuple [.str f.1, .str f.2]) = true
  simp [PySem.W.alike, PySem.W.alikeAll]
/-- what is a sequence stands as before -/
def IsSq (o : HO) : Prop := (∃ xs, o = .lst xs) ∨ (∃ xs, o = .tup xs) ∨ (∃ z xs, o = .frz z (.lst xs)) ∨ ∃ z xs, o = .frz z (.tup xs)
def Seqs (H H' : Hp) : Prop := ∀ b o, H b = some o → IsSq o → H' b = some o
theorem Seqs.tup {K : PySem.W.Frag} {H H' : Hp} {a : Addr} {xs : List V} (e : Seqs H H') (h : SqT K H a xs) : SqT K H' a xs := by
  rcases h with (h | ⟨o, h⟩) | h
  · exact .inl (.inl (e _ _ h (.inr (.inl ⟨_, rfl⟩))))
  · exact .inl (.inr ⟨o, e _ _ h (.inr (.inr (.inr ⟨_, _, rfl⟩)))⟩)
  · exact .inr h
theorem Seqs.lst {K : PySem.W.Frag} {H H' : Hp} {a : Addr} {xs : List V} (e : Seqs H H') (h : SqL K H a xs) : SqL K H' a xs := by
  rcases h with (h | ⟨o, h⟩) | h
  · exact .inl (.inl (e _ _ h (.inl ⟨_, rfl⟩)))
  · exact .inl (.inr ⟨o, e _ _ h (.inr (.inr (.inl ⟨_, _, rfl⟩)))⟩)
  · exact .inr h
mutual
theorem dp_seqs {K : PySem.W.Frag} {H H' : Hp} (S : Seqs H H') : ∀ (d : PyData) (v : V), Dp K H v d → Dp K H' v d
  | .none, _, h => by cases h; exact .non
  | .bool b, _, h => by cases h; exact .bl b
  | .int i, _, h => by cases h; exact .int i
  | .str x, _, h => by cases h; exact .str x
  | .list ds, _, h => by
    cases h with
    | lst h1 h2 => exact .lst (S.lst h1) (dpAll_seqs S ds _ h2)
  | .tuple ds, _, h => by
    cases h with
    | tup h1 h2 => exact .tup (S.tup h1) (dpAll_seqs S ds _ h2)
  | .dict _, _, h => by cases h
theorem dpAll_seqs {K : PySem.W.Frag} {H H' : Hp} (S : Seqs H H') : ∀ (ds : List PyData) (vs : List V), DpAll K H vs ds → DpAll K H' vs ds
  | [], _, h => by cases h; exact .nil
  | d :: ds, _, h => by
    cases h with
    | cons h1 h2 => exact .cons (dp_seqs S d _ h1) (dpAll_seqs S ds _ h2)
end
theorem seqs_ins {H : Hp} {p : Addr} {C dx : Addr} {fs : List (Str × V)} {o : HO} (h : H p = some (.ins C dx fs)) : Seqs H (upd H p o) := fun b u hb hs => by
  rw [upd_ne]
  · exact hb
  · intro e
    subst e
    rw [h] at hb
    cases hb
    rcases hs with ⟨_, z⟩ | ⟨_, z⟩ | ⟨_, _, z⟩ | ⟨_, _, z⟩ <;> cases z
theorem init_arg {K : PySem.W.Frag} {H : Hp} {p : Addr} {o : HO} {C dx : Addr} {v : V} {ts : List Tri} (hp : H p = some (.ins C dx [])) (hD : Dp K H v (.list (List.map dTri ts)) ∨ Dp K H v (dTris ts)) (hl1 : ts.length < 1000) : ∃ d, Dp K (upd H p o) v d ∧ TLv 2 d ∧ SzOk 2 d ∧ tid d = dTris ts := by
  have inner : ∀ t : Tri, SzOk 1 (dTri t) := fun t => ⟨trivial, fun ds hds => by
    rcases hds with e | e
    · cases e
    · have e' := PyData.tuple.inj e
      rw [← e']
      exact ⟨by show 3 < 10000; decide, fun _ _ => trivial⟩⟩
  have seqNe : ∀ {a xs}, SqT K H a xs → SqT K (upd H p o) a xs := fun {a xs} h => by
    rcases h with (h | ⟨o', h⟩) | h
    · exact .inl (.inl (by rw [upd_ne (ne_of h hp (by intro z; cases z))]; exact h))
    · exact .inl (.inr ⟨o', by rw [upd_ne (ne_of h hp (by intro z; cases z))]; exact h⟩)
    · exact .inr h
  have seqNeL : ∀ {a xs}, SqL K H a xs → SqL K (upd H p o) a xs := fun {a xs} h => by
    rcases h with (h | ⟨o', h⟩) | h
    · exact .inl (.inl (by rw [upd_ne (ne_of h hp (by intro z; cases z))]; exact h))
    · exact .inl (.inr ⟨o', by rw [upd_ne (ne_of h hp (by intro z; cases z))]; exact h⟩)
    · exact .inr h
  have all : ∀ {us : List Tri} {xs : List V}, DpAll K H xs (us.map dTri) → DpAll K (upd H p o) xs (us.map dTri) := by
    intro us
    induction us with
    | nil => intro xs h; cases h; exact .nil
    | cons u us ih =>
      intro xs h
      cases h with
      | cons h1 h2 =>
        obtain ⟨a, rfl, h3⟩ := dp_tri h1
        exact .cons (tri_dp (seqNe h3)) (ih h2)
  rcases hD with hD | hD
  · obtain ⟨a, xs, rfl, hS, hA⟩ := dp_lst hD
    refine ⟨_, .lst (seqNeL hS) (all hA), lv_trisL ts, ⟨⟨trivial, fun ds hds => ?_⟩, fun ds hds => ?_⟩, tid_trisL ts⟩
    · rcases hds with e | e
      · have e' := PyData.list.inj e
        rw [← e', List.length_map]
        exact ⟨by omega, fun _ _ => trivial⟩
      · cases e
    · rcases hds with e | e
      · have e' := PyData.list.inj e
        rw [← e', List.length_map]
        refine ⟨by omega, fun x hx => ?_⟩
        obtain ⟨t, _, rfl⟩ := List.mem_map.mp hx
        exact inner t
      · cases e
  · obtain ⟨a, xs, rfl, hS, hA⟩ := dp_tup hD
    refine ⟨_, .tup (seqNe hS) (all hA), lv_tris ts, ⟨⟨trivial, fun ds hds => ?_⟩, fun ds hds => ?_⟩, tid_tris ts⟩
    · rcases hds with e | e
      · cases e
      · have e' := PyData.tuple.inj e
        rw [← e', List.length_map]
        exact ⟨by omega, fun _ _ => trivial⟩
    · rcases hds with e | e
      · cases e
      · have e' := PyData.tuple.inj e
        rw [← e', List.length_map]
        refine ⟨by omega, fun x hx => ?_⟩
        obtain ⟨t, _, rfl⟩ := List.mem_map.mp hx
        exact inner t
section
variable {P : Program} {w : World} {K : PySem.W.Frag} {mg : Str → Option Value} {base : Heap}
theorem funD_ok {x qual : Str} {params : Arguments} {body : List Stmt} {scope : Scope} {dvs : List V} {kws : List (Str × V)} {f : Addr} {fd : FuncData} {N ps : List Str} {k : Nat} {sp : Sp} (F : FunD K x qual params body scope dvs kws f fd) (S : FnScope N ps scope) (len : ∀ vs H Q E, sp vs H Q E → vs.length = ps.length)
    (hbody : ∀ (cdv : Value) (A : Around) (outer : List Env) (s : Shared) (H : Hp) (vs : List V) (Q : VK) (E : XK), Room k (A.deeper (envOfC qual scope s.heap.objs.size f cdv)) → sp vs H Q E →
      ∃ t, PSs (cxOf CX0 P w K mg base N qual scope f cdv A outer s H E).nox body t ∧ t { nx := fun _ H' => Q .non H', rt := Q } (L2.start N vs) H) : FnOk P w K mg base CX0 (k + 1) f fd ps sp :=
  F.ok S len fun cdv A outer s H vs Q E hr h => by
    obtain ⟨t, h1, h2⟩ := hbody cdv A outer s H vs Q E hr h
    exact ⟨t, h1.nox, h2⟩
def spInit (K : PySem.W.Frag) (C : Addr) : Sp := fun vs H Q _ => ∃ p s v ts, vs = [.ref p, .str s, v] ∧ (∃ dx, H p = some (.ins C dx [])) ∧ (Dp K H v (.list (List.map dTri ts)) ∨ Dp K H v (dTris ts)) ∧ StepsIn ts ∧ ts.length < 1000 ∧ (exp ts).length < 1000 ∧
  ∀ H', CAt K C H' p s (exp ts) → (∀ b o, H b = some o → b ≠ p → H' b = some o) → Q .non H'
theorem ok_init {f fT fTb fS C : Addr} {fd fdT fdTb fdS : FuncData} {dvs : List V} (F : FunD K "__init__" "Counts.__init__" (defArgs sInit) (defBody sInit) (defScope sInit) dvs [] f fd) (B : Bn mg) (X : CTx K mg C)
    (FT : Fun K "tidy" "tidy" sTidy fT fdT) (bT : Binds K fdT ["thing"] []) (gT : mg "tidy" = some (.ref fT))
    (FTb : Fun K "table_of" "table_of" sTableOf fTb fdTb) (bTb : Binds K fdTb ["steps"] []) (gTb : mg "table_of" = some (.ref fTb))
    (FS : Fun K "sums_of" "sums_of" sSumsOf fS fdS) (bS : Binds K fdS ["steps", "side"] []) (gS : mg "sums_of" = some (.ref fS)) :
    FnOk P w K mg base CX0 4 f fd ["self", "start", "steps"] (spInit K C) := by
  have GT := ok_tidy (P := P) (w := w) (base := base) FT B bT gT 2
  have GTb := ok_tableOf (P := P) (w := w) (mg := mg) (base := base) (k := 0) FTb
  have GS := ok_sumsOf (P := P) (w := w) (mg := mg) (base := base) (k := 0) FS
  refine funD_ok F scInit (fun vs H Q E h => ?_) (fun cdv A outer sh H vs Q E hr h => ?_)
  · obtain ⟨p, s, v, ts, rfl, _⟩ := h
    rfl
  · obtain ⟨p, s, v, ts, rfl, ⟨dx, hp⟩, hD, hok, hl1, hl2, q⟩ := h
    have hu := hu_of hr
    have hr1 : Room 1 _ := hr.mono (by decide)
    refine ⟨_, pss_cons (ps_fld (pv 0) (pv 1) rfl)
        (pss_cons (ps_fld (pv 0) (pe_call GTb hr1 (by rfl) gTb FTb.kp bTb .nil pass0 (pa_cons (pe_call GT hr (by rfl) gT FT.kp bT .nil pass0 (pa_cons (pv 2) pa_nil)) pa_nil)) rfl)
        (pss_cons (ps_fld (pv 0) (pe_callTy call_tuple_of (by rfl) B.tuple (by decide +kernel) (pa_cons
            (pe_lc (own := [("one", 3), ("other", 4)]) (g := gTup K 2 (gCons (gName 3) (gCons (gName 4) gNil))) (tt := tYes) (te := tTup (tCons (tVar 3) (tCons (tVar 4) (tCons (tDGet (tFld K (tVar 0) "own_table") (tTup (tCons (tVar 3) (tCons (tVar 4) tNil)))) tNil)))) (by rfl) scInit.nd (pi_list (pe_callB (cr_sortedT rfl) (by rfl) B.sorted (by decide +kernel) (pa_cons (pe_fld (pv 0) rfl) pa_nil)))
              (blkOk_by (own := [("one", 3), ("other", 4)]) (N := ["self", "start", "steps", "one", "other"]) (sc := defScope sInit) (by decide +kernel))
              (fun _ _ _ _ _ => pg_tup rfl (pgs_cons (pg_name (i := 3) scInit.nd rfl (.inl rfl)) (pgs_cons (pg_name (i := 4) scInit.nd rfl (.inl rfl)) pgs_nil))) (fun _ _ _ _ _ => pts_nil)
              (fun _ _ _ _ _ => pe_tup (pa_cons (pv 3) (pa_cons (pv 4) (pa_cons (pe_dget hu (pe_fld (pv 0) rfl) (pe_tup (pa_cons (pv 3) (pa_cons (pv 4) pa_nil))) (fun _ _ => rfl)) pa_nil))))) pa_nil)) rfl)
        (pss_cons (ps_fld (pv 0) (pe_call GS hr1 (by rfl) gS FS.kp bS .nil pass0 (pa_cons (pe_fld (pv 0) rfl) (pa_cons pe_int pa_nil))) rfl)
        (pss_one (ps_fld (pv 0) (pe_call GS hr1 (by rfl) gS FS.kp bS .nil pass0 (pa_cons (pe_fld (pv 0) rfl) (pa_cons pe_int pa_nil))) rfl))))), ?_⟩
    -- self.own_start = start
    refine ⟨_, rfl, _, rfl, p, C, dx, [], rfl, hp, X.cl, X.n1, (by show 0 < 1000; decide), ?_⟩
    -- self.own_table = table_of(tidy(steps))
    obtain ⟨d, hD1, hTL, hSZ, htid⟩ := init_arg (o := .ins C dx (putF "own_start" (.str s) [])) hp hD hl1
    refine ⟨_, rfl, _, d, rfl, hD1, hTL, hSZ, fun v1 H1 s1 d1 => ?_⟩
    rw [htid] at d1
    refine ⟨v1, ts, rfl, d1, hok, hl2, fun tb kt H2 s2 ntb htb T => ?_⟩
    have hp1 : H1 p = some (.ins C dx (putF "own_start" (.str s) [])) := s1 _ _ upd_same
    have hp2 := s2 _ _ hp1
    have ptb : p ≠ tb := ne_of_none hp1 ntb
    refine ⟨_, rfl, p, C, dx, _, rfl, hp2, X.cl, X.n2, (by show 1 < 1000; decide), ?_⟩
    have old2 : ∀ b o, H b = some o → b ≠ p → H2 b = some o := fun b o hb hbp => s2 _ _ (s1 _ _ (by rw [upd_ne hbp]; exact hb))
    -- what stands apart from p, from here on
    have hp3 : (upd H2 p (.ins C dx (fl2 s tb))) p = some (.ins C dx (fl2 s tb)) := upd_same
    have htb3 : (upd H2 p (.ins C dx (fl2 s tb))) tb = some (.dT kt) := by rw [upd_ne ptb.symm]; exact htb
    have old3 : ∀ b o, H b = some o → b ≠ p → (upd H2 p (.ins C dx (fl2 s tb))) b = some o := fun b o hb hbp => by rw [upd_ne hbp]; exact old2 b o hb hbp
    obtain ⟨es, ek, hnd, hmem⟩ := tab_keys T
    have ekd : kt.map (fun kv => PyData.tuple (keyD kv.1)) = es.map dPair := by
      have z := congrArg (List.map fun k => PyData.tuple (keyD k)) ek
      rw [List.map_map, List.map_map] at z
      exact z
    have hkv : ∀ {d : PyData}, d ∈ kt.map (fun kv => PyData.tuple (keyD kv.1)) → ∃ e, d = dPair e := fun {d} hd => by
      rw [ekd] at hd
      obtain ⟨e, _, rfl⟩ := List.mem_map.mp hd
      exact ⟨e, rfl⟩
    refine ⟨_, rfl, p, C, dx, _, _, rfl, hp3, X.cl, X.n2, fl2_table, tb, kt, rfl, .inl htb3, fun d1 h1 d2 h2 => ?_, fun kv hkv' => ?_, fun kv hkv' => ?_, fun cs l pm hdp _ nl => ?_⟩
    · obtain ⟨e1, rfl⟩ := hkv h1
      obtain ⟨e2, rfl⟩ := hkv h2
      exact alike_pair e1 e2
    · obtain ⟨a, b, e⟩ := T.ks kv hkv'
      rw [e]
      exact fun z => by cases z
    · obtain ⟨e, he⟩ := hkv (List.mem_map.mpr ⟨kv, hkv', rfl⟩)
      rw [he]
      have h1 := depth_pair e
      have h2 := hr.un
      show (A.deeper (envOfC "Counts.__init__" (defScope sInit) sh.heap.objs.size f cdv)).units + 10 + _ < cLine
      omega
    rw [ekd] at pm
    obtain ⟨fs, e1, pm2⟩ := perm_pairs pm
    have hA4 : DpAll K (upd H2 p (.ins C dx (fl2 s tb))) (cs.map (·.1)) (fs.map dPair) := by
      rw [← e1]
      exact dpAll_map (fun c : V × PyData => c.1) (fun c => c.2) cs hdp
    generalize hks : cs.map (fun x => x.1) = ks at *
    have hTa : Tally (fs.map (triOf (exp ts))) (exp ts) := tally_of (pm2.nodup_iff.mpr hnd) fun e => (pm2.mem_iff).trans (hmem e)
    have hfl : fs.length < 1000 := by
      have z := hTa.len
      rw [List.length_map] at z
      omega
    have hcl : ks.length = fs.length := by rw [dpAll_len hA4, List.length_map]
    refine ⟨l, rfl, ⟨_, SqL.of upd_same⟩, fun D nD => ?_⟩
    have sl := same_upd (o := .lst ks) nl
    refine lc_list (K := K) (a := l) (xs := ks) (fun i H' => Same (upd (upd H2 p (.ins C dx (fl2 s tb))) l (.lst ks)) H' ∧ ∃ acc, H' D = some (.lst acc) ∧ acc.length = i ∧ DpAll K H' acc ((fs.map (triOf (exp ts))).take i |>.map dTri))
      ⟨same_upd nD, [], upd_same, rfl, .nil⟩ (fun i H' _ h => h.1.seq (SqL.of upd_same)) ?_ ?_
    · rintro i x H' hi ⟨sH, acc, hacc, hal, hdp'⟩
      obtain ⟨d, hd, hxd⟩ := dpAll_at hA4 hi
      rw [List.getElem?_map] at hd
      obtain ⟨e, he, rfl⟩ : ∃ e, fs[i]? = some e ∧ d = dPair e := by
        cases he : fs[i]? with
        | none => rw [he] at hd; cases hd
        | some e => rw [he] at hd; exact ⟨e, rfl, (Option.some.inj hd).symm⟩
      obtain ⟨a', rfl, hS'⟩ := dp_pair (dp_same (sl.trans sH) _ _ hxd)
      have hp' := (sl.trans sH) _ _ hp3
      have htb' := (sl.trans sH) _ _ htb3
      refine ⟨a', _, rfl, hS', rfl, _, _, rfl, _, _, rfl, rfl, rfl, _, rfl, _, rfl, _, rfl, p, C, dx, _, _, rfl, hp', X.cl, X.n2, fl2_table, _, rfl, _, rfl, (by show 2 ≤ sizeLine; decide), fun T2 n2 => ?_⟩
      have hv : valV kt [Sum.inr e.1, Sum.inr e.2] = some (.int ((exp ts).count e)) := by
        rw [T.vv, if_pos (List.count_pos_iff.mpr ((hmem e).1 (pm2.mem_iff.mp (List.mem_of_getElem? he))))]
      have htb2 := same_upd (o := .tup [.str e.1, .str e.2]) n2 _ _ htb'
      refine ⟨tb, _, rfl, hv ▸ DGet.t (k := [Sum.inr e.1, Sum.inr e.2]) htb2 upd_same, (by show 3 ≤ sizeLine; decide), fun T3 n3 => ?_⟩
      have s2 := same_upd (o := .tup [.str e.1, .str e.2]) n2
      have s3 := same_upd (o := .tup [.str e.1, .str e.2, .int ((exp ts).count e)]) n3
      have hacc3 := s3 _ _ (s2 _ _ hacc)
      refine ⟨acc, hacc3, ?_, fun b o hb => ?_, acc ++ [.ref T3], upd_same, by rw [List.length_append, hal]; rfl, ?_⟩
      · have hlt := (List.getElem?_eq_some_iff.mp he).1
        rw [hal, sizeLine_eq]; omega
      · rw [upd_ne (ne_of_none hb nD)]
        exact s3 _ _ (s2 _ _ (sH _ _ hb))
      · have hmi : (fs.map (triOf (exp ts)))[i]? = some (triOf (exp ts) e) := by rw [List.getElem?_map, he]; rfl
        rw [take_snoc hmi, List.map_append]
        have fx : Fix _ (upd _ D (.lst (acc ++ [.ref T3]))) := fix_upd hacc3
        refine dpAll_app (dpAll_fix fx _ _ (noL_tris _) (dpAll_same (s2.trans s3) _ _ hdp')) (.cons (dp_fix fx _ _ (noL_tri _) (tri_dp (t := triOf (exp ts) e) (SqT.of upd_same))) .nil)
    · rintro H' ⟨sH, acc, hacc, hal, hdp'⟩
      have hll : (fs.map (triOf (exp ts))).take ks.length = fs.map (triOf (exp ts)) := List.take_of_length_le (by rw [List.length_map, hcl]; exact Nat.le_refl _)
      rw [hll] at hdp'
      refine ⟨D, acc, rfl, .inl ⟨SqL.of hacc, fun sa nsa => ?_⟩⟩
      have s5 := same_upd (o := .tup acc) nsa
      have s35 := (sl.trans sH).trans s5
      have hp5 := s35 _ _ hp3
      have hst5 : Dp K (upd H' sa (.tup acc)) (.ref sa) (dTris (fs.map (triOf (exp ts)))) := .tup (SqT.of upd_same) (dpAll_same s5 _ _ hdp')
      refine ⟨_, rfl, p, C, dx, _, rfl, hp5, X.cl, X.n3, (by show 2 < 1000; decide), ?_⟩
      generalize hst : V.ref sa = st at hst5
      have hp6 : (upd (upd H' sa (.tup acc)) p (.ins C dx (fl3 s tb st))) p = some (.ins C dx (fl3 s tb st)) := upd_same
      have hst6 := dp_seqs (seqs_ins (o := .ins C dx (fl3 s tb st)) hp5) _ _ hst5
      have off6 : ∀ b o, (upd H' sa (.tup acc)) b = some o → b ≠ p → (upd (upd H' sa (.tup acc)) p (.ins C dx (fl3 s tb st))) b = some o := fun b o hb hbp => by rw [upd_ne hbp]; exact hb
      -- self.own_outs = sums_of(self.own_steps, 0)
      refine ⟨_, rfl, p, C, dx, _, _, rfl, hp6, X.cl, X.n3, fl3_steps, st, fs.map (triOf (exp ts)), false, rfl, hst6, by rw [List.length_map]; exact hfl, fun os ko H7 s7 nos hos So => ?_⟩
      have hp7 := s7 _ _ hp6
      have pos' : p ≠ os := ne_of_none hp6 nos
      refine ⟨_, rfl, p, C, dx, _, rfl, hp7, X.cl, X.n4, (by show 3 < 1000; decide), ?_⟩
      have hst8 := dp_seqs (seqs_ins (o := .ins C dx (fl4 s tb st os)) hp7) _ _ (dp_same s7 _ _ hst6)
      have hp8 : (upd H7 p (.ins C dx (fl4 s tb st os))) p = some (.ins C dx (fl4 s tb st os)) := upd_same
      have hos8 : (upd H7 p (.ins C dx (fl4 s tb st os))) os = some (.dK ko) := by rw [upd_ne pos'.symm]; exact hos
      -- self.own_ins = sums_of(self.own_steps, 1)
      refine ⟨_, rfl, p, C, dx, _, _, rfl, hp8, X.cl, X.n3, fl4_steps, st, fs.map (triOf (exp ts)), true, rfl, hst8, by rw [List.length_map]; exact hfl, fun is ki H9 s9 nis his Si => ?_⟩
      have hp9 := s9 _ _ hp8
      have pis : p ≠ is := ne_of_none hp8 nis
      refine ⟨_, rfl, p, C, dx, _, rfl, hp9, X.cl, X.n5, (by show 4 < 1000; decide), ?_⟩
      refine q _ ⟨⟨dx, tb, st, os, is, kt, ko, ki, fs.map (triOf (exp ts)), upd_same, ?_, T, dp_seqs (seqs_ins hp9) _ _ (dp_same s9 _ _ hst8), hTa, ?_, So, ?_, Si⟩⟩ fun b o hb hbp => ?_
      · rw [upd_ne ptb.symm]
        refine s9 _ _ ?_
        rw [upd_ne ptb.symm]
        refine s7 _ _ (off6 _ _ (s35 _ _ htb3) ptb.symm)
      · rw [upd_ne pos'.symm]
        exact s9 _ _ hos8
      · rw [upd_ne pis.symm]
        exact his
      · rw [upd_ne hbp]
        refine s9 _ _ ?_
        rw [upd_ne hbp]
        exact s7 _ _ (off6 _ _ (s35 _ _ (old3 b o hb hbp)) hbp)
end
end K76
set_option Elab.async false
set_option linter.all false
set_option maxRecDepth 100000
/-! The walk, fourth part: the methods of Counts that look. -/
namespace K76
open PySem PySem.Spec PyProof.Rows L2
/-! ### callees, bundled -/
structure Gd (P : Program) (w : World) (K : PySem.W.Frag) (mg : Str → Option Value) (base : Heap) (k : Nat) (x : Str) (ps : List Str) (sp : Sp) (f : Addr) (fd : FuncData) : Prop where
  ok : FnOk P w K mg base CX0 k f fd ps sp
  gm : mg x = some (.ref f)
  kp : PySem.W.keepIn K (.ref f) = true
  bd : Binds K fd ps []
structure Gm (P : Program) (w : World) (K : PySem.W.Frag) (mg : Str → Option Value) (base : Heap) (k : Nat) (C : Addr) (m : Str) (ps : List Str) (sp : Sp) (f : Addr) (fd : FuncData) : Prop where
  ok : FnOk P w K mg base CX0 k f fd ps sp
  cl : Cls K C
  mt : Meth K C m f
  bd : Binds K fd ps []
structure Gp (P : Program) (w : World) (K : PySem.W.Frag) (mg : Str → Option Value) (base : Heap) (k : Nat) (C : Addr) (m : Str) (ps : List Str) (sp : Sp) (p f : Addr) (fd : FuncData) : Prop where
  ok : FnOk P w K mg base CX0 k f fd ps sp
  cl : Cls K C
  pr : PropOf K C m p f
  bd : Binds K fd ps []
/-- the making of a Counts -/
structure Gi (P : Program) (w : World) (K : PySem.W.Frag) (mg : Str → Option Value) (base : Heap) (C : Addr) (f : Addr) (fd : FuncData) : Prop where
  ok : FnOk P w K mg base CX0 4 f fd ["self", "start", "steps"] (spInit K C)
  mkC : Mk K C f
  tx : CTx K mg C
  bd : Binds K fd ["self", "start", "steps"] []
section
variable {X : Cx} {k : Nat} {C f p : Addr} {fd : FuncData} {ps : List Str} {sp : Sp} {x m : Str} {e o : Expr} {es : List Expr} {t : TA} {ta : TE} {pp pos apos : Pos}
theorem pe_g (G : Gd X.prog X.w X.K X.mg X.base k x ps sp f fd) (hr : Room k X.A) (hg : Gl X x) (ha : PA X (e :: es) t) (hdb : (x == ("__debug__" : Str)) = false := by decide) (he : starEach (e :: es) X.env = (false, eval e X.env) :: starEach es X.env := by rfl) (hpl : (backTo pos (starEach es X.env)).any (·.1) = false := by rfl) :
    PE X (.Call (.Name x pp) (e :: es) [] pos) (tCall sp [] E0 t) := pe_call G.ok hr hg G.gm G.kp G.bd .nil pass0 ha hdb he hpl
theorem pe_gm {pl : Sem Bool} (he : PE X o ta) (G : Gm X.prog X.w X.K X.mg X.base k C m ps sp f fd) (hr : Room k X.A) (ha : PA X (e :: es) t)
    (hst : starEach (e :: es) X.env = (false, eval e X.env) :: starEach es X.env := by rfl) (hpl : (backTo pos (starEach es X.env)).any (·.1) = false := by rfl)
    (ht : eval (.Call (.Attribute o m apos) (e :: es) [] pos) X.env = (do
      let ov ← eval o X.env
      standAt apos.atName
      let (f, first) ← holding [ov] (getMethod ov m pl)
      callWith pos f first (backTo pos (starEach (e :: es) X.env)) (backToKw pos (keywordEach [] X.env))) := by rfl) :
    PE X (.Call (.Attribute o m apos) (e :: es) [] pos) (tMeth C m sp [] E0 ta t) := pe_meth he G.cl G.mt G.ok hr G.bd .nil pass0 ha hst hpl ht
theorem pe_gp (he : PE X e ta) (G : Gp X.prog X.w X.K X.mg X.base k C m ps sp p f fd) (hr : Room (k + 1) X.A) (hab : attributeBase e m X.env (eval e X.env) = eval e X.env) : PE X (.Attribute e m pos) (tProp C sp [] E0 ta) :=
  pe_prop he G.cl G.pr G.ok hr G.bd .nil pass0 hab
theorem pe_gi (G : Gi X.prog X.w X.K X.mg X.base C f fd) (hr : Room 5 X.A) (hg : Gl X "Counts") (ha : PA X (e :: es) t) (he : starEach (e :: es) X.env = (false, eval e X.env) :: starEach es X.env := by rfl) (hpl : (backTo pos (starEach es X.env)).any (·.1) = false := by rfl) :
    PE X (.Call (.Name "Counts" pp) (e :: es) [] pos) (tMake C (spInit X.K C) [] E0 t) := pe_make G.mkC G.ok hr hg G.tx.mgC G.bd .nil pass0 ha (by decide) he hpl
end
/-- what a making of Counts asks -/
theorem made {K : PySem.W.Frag} {C : Addr} {H : Hp} {s : Str} {v : V} {ts : List Tri} {R : Addr → Hp → Prop} {E : XK} (hD : Dp K H v (.list (List.map dTri ts)) ∨ Dp K H v (dTris ts)) (ok : StepsIn ts) (l1 : ts.length < 1000) (l2 : (exp ts).length < 1000)
    (q : ∀ x H2, Same H H2 → CAt K C H2 x s (exp ts) → R x H2) :
    ∀ x dx, H x = none → H dx = none → dx ≠ x → spInit K C (.ref x :: ([.str s, v] ++ [])) (upd (upd H dx (.own x)) x (.ins C dx [])) (fun v H2 => v = .non ∧ R x H2) E := by
  intro x dx nx ndx ne
  have sm : Same H (upd (upd H dx (.own x)) x (.ins C dx [])) := fun b o e => by
    rw [upd_ne (ne_of_none e nx), upd_ne (ne_of_none e ndx)]
    exact e
  refine ⟨x, s, v, ts, rfl, ⟨dx, upd_same⟩, hD.imp (dp_same sm _ _) (dp_same sm _ _), ok, l1, l2, fun H' c kp => ⟨rfl, q x H' (fun b o e => kp b o (sm b o e) (ne_of_none e nx)) c⟩⟩
/-- the steps of a Counts: none stands still, at most 30 -/
structure EOk (E : List (Str × Str)) : Prop where
  un : ∀ e ∈ E, e.1 ≠ e.2
  le : E.length ≤ 30
theorem EOk.perm {E F : List (Str × Str)} (h : EOk E) (p : E.Perm F) : EOk F := ⟨fun e he => h.un e (p.mem_iff.mpr he), by rw [← p.length_eq]; exact h.le⟩
theorem EOk.erase {E : List (Str × Str)} (h : EOk E) (e : Str × Str) : EOk (E.erase e) := ⟨fun x hx => h.un x (List.mem_of_mem_erase hx), Nat.le_trans (List.length_erase_le ..) h.le⟩
theorem Tally.stepsIn {ts : List Tri} {E : List (Str × Str)} (h : Tally ts E) (o : EOk E) : StepsIn ts := fun t ht => ⟨o.un _ (h.ct t ht).2, by rw [(h.ct t ht).1]; exact Int.natCast_nonneg _⟩
theorem Tally.small {ts : List Tri} {E : List (Str × Str)} (h : Tally ts E) (o : EOk E) : ts.length < 1000 ∧ (K76.exp ts).length < 1000 := by
  have h1 := h.len
  have h2 := h.exp.length_eq
  have h3 := o.le
  exact ⟨by omega, by omega⟩
section
variable {P : Program} {w : World} {K : PySem.W.Frag} {mg : Str → Option Value} {base : Heap} {C : Addr}
/-! ### start, steps -/
def spStart (K : PySem.W.Frag) (C : Addr) : Sp := fun vs H Q _ => ∃ p s E, vs = [.ref p] ∧ CAt K C H p s E ∧ Q (.str s) H
theorem ok_start {f : Addr} {fd : FuncData} {k : Nat} (F : Fun K "start" "Counts.start" sStart f fd) (X : CTx K mg C) : FnOk P w K mg base CX0 (k + 1) f fd ["self"] (spStart K C) := by
  refine F.ok scStart (fun vs H Q E h => ?_) (fun cdv A outer sh H vs Q E hr h => ?_)
  · obtain ⟨p, s, E, rfl, _⟩ := h
    rfl
  · obtain ⟨p, s, E, rfl, c, q⟩ := h
    obtain ⟨dx, tb, st, os, is, kt, ko, ki, ts, h1, h2, h3, h4, h5, h6, h7, h8, h9⟩ := c.ex
    refine ⟨_, pss_one (ps_ret (pe_fld (pv 0) rfl)), ?_⟩
    exact ⟨_, rfl, p, C, dx, _, _, rfl, h1, X.cl, X.n1, flds_start, q⟩
def spSteps (K : PySem.W.Frag) (C : Addr) : Sp := fun vs H Q _ => ∃ p s E, vs = [.ref p] ∧ CAt K C H p s E ∧ ∀ st ts, Dp K H st (dTris ts) → Tally ts E → Q st H
theorem ok_steps {f : Addr} {fd : FuncData} {k : Nat} (F : Fun K "steps" "Counts.steps" sSteps f fd) (X : CTx K mg C) : FnOk P w K mg base CX0 (k + 1) f fd ["self"] (spSteps K C) := by
  refine F.ok scSteps (fun vs H Q E h => ?_) (fun cdv A outer sh H vs Q E hr h => ?_)
  · obtain ⟨p, s, E, rfl, _⟩ := h
    rfl
  · obtain ⟨p, s, E, rfl, c, q⟩ := h
    obtain ⟨dx, tb, st, os, is, kt, ko, ki, ts, h1, h2, h3, h4, h5, h6, h7, h8, h9⟩ := c.ex
    refine ⟨_, pss_one (ps_ret (pe_fld (pv 0) rfl)), ?_⟩
    exact ⟨_, rfl, p, C, dx, _, _, rfl, h1, X.cl, X.n3, flds_steps, q st ts h4 h5⟩
/-! ### places -/
theorem sums_keys {kvs : List (Key × V)} {L : List (Str × Int)} (T : SumsOk kvs L) : ∃ ks : List Str, kvs.map (fun kv => kV kv.1) = ks.map V.str ∧ ks.length = kvs.length ∧ ∀ p, p ∈ ks ↔ p ∈ L.map (·.1) := by
  have key : ∀ (kvs : List (Key × V)), (∀ k ∈ kvs, ∃ p, k.1 = Sum.inr p) → ∃ ks : List Str, kvs.map (·.1) = ks.map Sum.inr := by
    intro kvs
    induction kvs with
    | nil => intro _; exact ⟨[], rfl⟩
    | cons k kvs ih =>
      intro h
      obtain ⟨es, e1⟩ := ih fun k hk => h k (List.mem_cons_of_mem _ hk)
      obtain ⟨a, e2⟩ := h k List.mem_cons_self
      exact ⟨a :: es, by rw [List.map_cons, List.map_cons, e1, e2]⟩
  obtain ⟨ks, he⟩ := key kvs T.ks
  refine ⟨ks, ?_, ?_, fun p => ?_⟩
  · have z := congrArg (List.map kV) he
    rw [List.map_map, List.map_map] at z
    exact z
  · have z := congrArg List.length he
    rw [List.length_map, List.length_map] at z
    exact z.symm
  · have hv := T.vv p
    have h2 : (kvs.any fun kv => decide (kv.1 = (Sum.inr p : Key))) = true ↔ p ∈ ks := by
      constructor
      · intro h
        obtain ⟨kv, hkv, e2⟩ := List.any_eq_true.mp h
        have h1 : (Sum.inr p : Key) ∈ kvs.map (·.1) := List.mem_map.mpr ⟨kv, hkv, of_decide_eq_true e2⟩
        rw [he] at h1
        obtain ⟨f, hf, e3⟩ := List.mem_map.mp h1
        rw [← Sum.inr.inj e3]
        exact hf
      · intro h
        have h1 : (Sum.inr p : Key) ∈ kvs.map (·.1) := by rw [he]; exact List.mem_map.mpr ⟨p, h, rfl⟩
        obtain ⟨kv, hkv, e2⟩ := List.mem_map.mp h1
        exact List.any_eq_true.mpr ⟨kv, hkv, decide_eq_true e2⟩
    rw [← h2, valV_any, hv]
    by_cases c : p ∈ L.map (·.1)
    · rw [if_pos c]; exact ⟨fun _ => c, fun _ => rfl⟩
    · rw [if_neg c]; exact ⟨fun z => (by cases z), fun z => absurd z c⟩
theorem side_mem {ts : List Tri} {E : List (Str × Str)} (h : Tally ts E) (b : Bool) (p : Str) : p ∈ (ts.map (sideOf b)).map (·.1) ↔ ∃ e ∈ E, (if b = true then e.2 else e.1) = p := by
  rw [List.map_map, List.mem_map]
  constructor
  · rintro ⟨t, ht, e⟩
    exact ⟨_, (h.ct t ht).2, e⟩
  · rintro ⟨e, he, r⟩
    obtain ⟨t, ht, e1⟩ := h.all e he
    refine ⟨t, ht, ?_⟩
    rw [← r, ← e1]
    rfl
def IsPlace (s : Str) (E : List (Str × Str)) (x : Str) : Prop := x = s ∨ ∃ e ∈ E, e.1 = x ∨ e.2 = x
def spPlaces (K : PySem.W.Frag) (C : Addr) : Sp := fun vs H Q _ => ∃ p s E, vs = [.ref p] ∧ CAt K C H p s E ∧ E.length ≤ 30 ∧
  ∀ v ps H', Same H H' → SqT K H' v (List.map V.str ps) → ps.Nodup → (∀ x, x ∈ ps ↔ IsPlace s E x) → ps.length ≤ 61 → Q (.ref v) H'
theorem ok_places {f fS : Addr} {fd fdS : FuncData} (F : Fun K "places" "Counts.places" sPlaces f fd) (X : CTx K mg C) (S : Gd P w K mg base 1 "set_of" ["things"] (spSetOf K) fS fdS) : FnOk P w K mg base CX0 2 f fd ["self"] (spPlaces K C) := by
  refine F.ok scPlaces (fun vs H Q E h => ?_) (fun cdv A outer sh H vs Q E hr h => ?_)
  · obtain ⟨p, s, E, rfl, _⟩ := h
    rfl
  · obtain ⟨p, s, E, rfl, c, hE, q⟩ := h
    obtain ⟨dx, tb, st, os, is, kt, ko, ki, ts, h1, h2, h3, h4, h5, h6, h7, h8, h9⟩ := c.ex
    obtain ⟨ka, e1, l1, m1⟩ := sums_keys h7
    obtain ⟨kb, e2, l2, m2⟩ := sums_keys h9
    have z1 := h7.len
    have z2 := h9.len
    have z3 := h5.len
    rw [List.length_map] at z1 z2
    refine ⟨_, pss_one (ps_ret (pe_g S hr (by rfl) (pa_cons (pe_lst (pa_cons (pe_fld (pv 0) rfl) (pa_starD rfl (pe_fld (pv 0) rfl) (pa_starD rfl (pe_fld (pv 0) rfl) pa_nil)))) pa_nil))), ?_⟩
    refine ⟨_, rfl, p, C, dx, _, _, rfl, h1, X.cl, X.n1, flds_start, _, rfl, p, C, dx, _, _, rfl, h1, X.cl, X.n4, flds_outs, os, ko, rfl, .inl h6, _, rfl, p, C, dx, _, _, rfl, h1, X.cl, X.n5, flds_ins, is, ki, rfl, .inl h8, ?_⟩
    rw [e1, e2]
    have ee : V.str s :: (ka.map V.str ++ (kb.map V.str ++ [])) = (s :: (ka ++ kb)).map V.str := by rw [List.append_nil, List.map_cons, List.map_append]
    show (V.str s :: (ka.map V.str ++ (kb.map V.str ++ []))).length ≤ sizeLine ∧ _
    rw [ee]
    refine ⟨by rw [List.length_map, List.length_cons, List.length_append, sizeLine_eq]; omega, fun l nl => ?_⟩
    refine ⟨l, s :: (ka ++ kb), rfl, SqL.of upd_same, by rw [List.length_cons, List.length_append]; omega, fun v ys H' sm hv nd hm hl => q v ys H' ((same_upd nl).trans sm) hv nd (fun x => ?_) ?_⟩
    · rw [hm x, List.mem_cons, List.mem_append, m1, m2, side_mem h5, side_mem h5]
      unfold IsPlace
      constructor
      · rintro (z | ⟨e, he, z⟩ | ⟨e, he, z⟩)
        · exact .inl z
        · exact .inr ⟨e, he, .inl z⟩
        · exact .inr ⟨e, he, .inr z⟩
      · rintro (z | ⟨e, he, z | z⟩)
        · exact .inl z
        · exact .inr (.inl ⟨e, he, z⟩)
        · exact .inr (.inr ⟨e, he, z⟩)
    · rw [List.length_cons, List.length_append] at hl
      omega
/-! ### outs, ins -/
theorem tally_sums {ts : List Tri} {E : List (Str × Str)} (h : Tally ts E) (p : Str) : sumAt (ts.map (sideOf false)) p = (outs E p : Int) ∧ sumAt (ts.map (sideOf true)) p = (inns E p : Int) := by
  have h0 : ∀ t ∈ ts, 0 ≤ t.2.2 := fun t ht => by rw [(h.ct t ht).1]; exact Int.natCast_nonneg _
  refine ⟨?_, ?_⟩
  · rw [← outs_perm h.exp]
    exact sum_outs ts h0 p
  · rw [← inns_perm h.exp]
    exact sum_inns ts h0 p
def spOutsIns (K : PySem.W.Frag) (C : Addr) (b : Bool) : Sp := fun vs H Q _ => ∃ p s E x, vs = [.ref p, .str x] ∧ CAt K C H p s E ∧ Q (.int ((if b = true then inns E x else outs E x : Nat) : Int)) H
theorem ok_outs {f : Addr} {fd : FuncData} {k : Nat} (F : Fun K "outs" "Counts.outs" sOuts f fd) (X : CTx K mg C) : FnOk P w K mg base CX0 (k + 1) f fd ["self", "place"] (spOutsIns K C false) := by
  refine F.ok scOuts (fun vs H Q E h => ?_) (fun cdv A outer sh H vs Q E hr h => ?_)
  · obtain ⟨p, s, E, x, rfl, _⟩ := h
    rfl
  · obtain ⟨p, s, E, x, rfl, c, q⟩ := h
    have hu := hu_of hr
    obtain ⟨dx, tb, st, os, is, kt, ko, ki, ts, h1, h2, h3, h4, h5, h6, h7, h8, h9⟩ := c.ex
    refine ⟨_, pss_one (ps_ret (pe_dget2 hu (pe_fld (pv 0) rfl) (pv 1) pe_int ⟨rfl, rfl, rfl, rfl⟩)), ?_⟩
    refine ⟨_, rfl, p, C, dx, _, _, rfl, h1, X.cl, X.n4, flds_outs, os, rfl, .inl ⟨ko, .inl h6⟩, _, rfl, _, DGet.k (k := Sum.inr x) h6, ?_⟩
    rw [sums_got h7, (tally_sums h5 x).1]
    exact q
theorem ok_ins {f : Addr} {fd : FuncData} {k : Nat} (F : Fun K "ins" "Counts.ins" sIns f fd) (X : CTx K mg C) : FnOk P w K mg base CX0 (k + 1) f fd ["self", "place"] (spOutsIns K C true) := by
  refine F.ok scIns (fun vs H Q E h => ?_) (fun cdv A outer sh H vs Q E hr h => ?_)
  · obtain ⟨p, s, E, x, rfl, _⟩ := h
    rfl
  · obtain ⟨p, s, E, x, rfl, c, q⟩ := h
    have hu := hu_of hr
    obtain ⟨dx, tb, st, os, is, kt, ko, ki, ts, h1, h2, h3, h4, h5, h6, h7, h8, h9⟩ := c.ex
    refine ⟨_, pss_one (ps_ret (pe_dget2 hu (pe_fld (pv 0) rfl) (pv 1) pe_int ⟨rfl, rfl, rfl, rfl⟩)), ?_⟩
    refine ⟨_, rfl, p, C, dx, _, _, rfl, h1, X.cl, X.n5, flds_ins, is, rfl, .inl ⟨ki, .inl h8⟩, _, rfl, _, DGet.k (k := Sum.inr x) h8, ?_⟩
    rw [sums_got h9, (tally_sums h5 x).2]
    exact q
/-! ### counts[a, b] -/
def spItem (K : PySem.W.Frag) (C : Addr) : Sp := fun vs H Q _ => ∃ p s E b x y, vs = [.ref p, .ref b] ∧ CAt K C H p s E ∧ H b = some (.tup [.str x, .str y]) ∧ Q (.int (E.count (x, y))) H
theorem ok_item {f : Addr} {fd : FuncData} {k : Nat} (F : Fun K "__getitem__" "Counts.__getitem__" sGetItem f fd) (X : CTx K mg C) (B : Bn mg) : FnOk P w K mg base CX0 (k + 1) f fd ["self", "step"] (spItem K C) := by
  refine F.ok scGetItem (fun vs H Q E h => ?_) (fun cdv A outer sh H vs Q E hr h => ?_)
  · obtain ⟨p, s, E, b, x, y, rfl, _⟩ := h
    rfl
  · obtain ⟨p, s, E, b, x, y, rfl, c, hb, q⟩ := h
    have hu := hu_of hr
    obtain ⟨dx, tb, st, os, is, kt, ko, ki, ts, h1, h2, h3, h4, h5, h6, h7, h8, h9⟩ := c.ex
    refine ⟨_, pss_one (ps_ret (pe_dget2 hu (pe_fld (pv 0) rfl) (pe_callTy call_tupleT (by rfl) B.tuple (by decide +kernel) (pa_cons (pv 1) pa_nil)) pe_int ⟨rfl, rfl, rfl, rfl⟩)), ?_⟩
    refine ⟨_, rfl, p, C, dx, _, _, rfl, h1, X.cl, X.n2, flds_table, tb, rfl, .inr ⟨kt, .inl h2⟩, _, rfl, b, _, rfl, SqT.of hb, _, DGet.t (k := [Sum.inr x, Sum.inr y]) h2 hb, ?_⟩
    rw [tab_got h3]
    exact q
end
end K76
set_option Elab.async false
set_option linter.all false
set_option maxRecDepth 100000
/-! The walk, fifth part: nexts, of, begun, the minus of two Counts. -/
namespace K76
open PySem PySem.Spec PyProof.Rows L2
/-- counts[e] by C's own way -/
structure Gx (P : Program) (w : World) (K : PySem.W.Frag) (mg : Str → Option Value) (base : Heap) (k : Nat) (C : Addr) (f : Addr) (fd : FuncData) : Prop where
  ok : FnOk P w K mg base CX0 k f fd ["self", "step"] (spItem K C)
  hm : PySem.W.findIn K (.ref C) "__getitem__" = some (some (.ref f))
  hi : PySem.W.fnIn K f = true
  hf : PySem.W.isFn K (.ref f) = true
  bd : Binds K fd ["self", "step"] []
theorem pe_gx {X : Cx} {k : Nat} {C f : Addr} {fd : FuncData} {a b : Expr} {ta tb : TE} {pos : Pos} (G : Gx X.prog X.w X.K X.mg X.base k C f fd) (hr : Room (k + 1) X.A) (ha : PE X a ta) (hb : PE X b tb)
    (hsl : ∀ (x : Addr) (i : Value), subscripted b true (.ref x) i = runValue (.builtin "lifetime.subscript" ⟨[.ref x, i], []⟩) := by intro _ _; with_unfolding_all rfl) :
    PE X (.Subscript a b pos) (tOp (rOwnIx C (spItem X.K C) [] E0) ta tb) := pe_ownix G.hm G.hi G.hf G.ok hr G.bd .nil pass0 ha hb hsl
theorem same_unlock {H H' : Hp} {d : Addr} {u f : HO} (hd : H d = some u) (s : Same (upd H d f) H') : Same H (upd H' d u) := fun b o e => by
  by_cases h : b = d
  · subst h
    rw [hd] at e
    rw [upd_same]
    exact e
  · rw [upd_ne h]
    exact s _ _ (by rw [upd_ne h]; exact e)
section
variable {P : Program} {w : World} {K : PySem.W.Frag} {mg : Str → Option Value} {base : Heap} {C : Addr}
/-! ### nexts -/
def spNexts (K : PySem.W.Frag) (C : Addr) : Sp := fun vs H Q _ => ∃ p s E x, vs = [.ref p, .str x] ∧ CAt K C H p s E ∧ E.length ≤ 30 ∧
  ∀ v ns H', Same H H' → SqT K H' v (List.map V.str ns) → ns.Nodup → (∀ y, y ∈ ns ↔ (x, y) ∈ E) → ns.length ≤ 30 → Q (.ref v) H'
theorem ok_nexts {f fS : Addr} {fd fdS : FuncData} (F : Fun K "nexts" "Counts.nexts" sNexts f fd) (X : CTx K mg C) (S : Gd P w K mg base 1 "set_of" ["things"] (spSetOf K) fS fdS) : FnOk P w K mg base CX0 2 f fd ["self", "place"] (spNexts K C) := by
  refine F.ok scNexts (fun vs H Q E h => ?_) (fun cdv A outer sh H vs Q E hr h => ?_)
  · obtain ⟨p, s, E, x, rfl, _⟩ := h
    rfl
  · obtain ⟨p, s, E, x, rfl, c, hE, q⟩ := h
    obtain ⟨dx, tb, st, os, is, kt, ko, ki, ts, h1, h2, h3, h4, h5, h6, h7, h8, h9⟩ := c.ex
    obtain ⟨es, ek, hnd, hmem⟩ := tab_keys h3
    have hel : es.length = kt.length := by
      have z := congrArg List.length ek
      rw [List.length_map, List.length_map] at z
      exact z.symm
    have hkl := h3.len
    refine ⟨_, pss_one (ps_ret (pe_g S hr (by rfl) (pa_cons (pe_lock (pe_lc (own := [("one", 2), ("other", 3)]) (g := gTup K 2 (gCons (gName 2) (gCons (gName 3) gNil))) (te := tVar 3) (by rfl) scNexts.nd (pi_keys (pe_fld (pv 0) rfl))
      (blkOk_by (own := [("one", 2), ("other", 3)]) (N := ["self", "place", "one", "other"]) (sc := defScope sNexts) (by decide +kernel))
      (fun _ _ _ _ _ => pg_tup rfl (pgs_cons (pg_name (i := 2) scNexts.nd rfl (.inl rfl)) (pgs_cons (pg_name (i := 3) scNexts.nd rfl (.inl rfl)) pgs_nil)))
      (fun _ _ _ _ _ => pts_one (pt_cmpR op_eq (pv 2) (pv 1) (nomark _))) (fun _ _ _ _ _ => pv 3))) pa_nil))), ?_⟩
    have ptb : p ≠ tb := ne_of h1 h2 (by intro z; cases z)
    refine ⟨tb, .dT kt, h2, trivial, fun od => ?_⟩
    have hpl : (upd H tb (.frz od (.dT kt))) p = some (.ins C dx (flds s tb st os is)) := by rw [upd_ne ptb]; exact h1
    refine ⟨_, rfl, p, C, dx, _, _, rfl, hpl, X.cl, X.n2, flds_table, tb, od, rfl, .inr ⟨kt, upd_same, fun D nD => ?_⟩⟩
    refine lc_it walk_keysT (fun i H' => Same (upd H tb (.frz od (.dT kt))) H' ∧ H' D = some (.lst (((es.take i).filter (fun e => decide (e.1 = x))).map fun e => V.str e.2))) ⟨same_upd nD, upd_same⟩ (fun i H' _ h => h.1 _ _ upd_same) ?_ ?_
    · rintro i y H' _ hi ⟨sH, hD⟩ ⟨rfl, k, v, b, hk, rfl, hb⟩
      have he : es[i]? = some es[i] := List.getElem?_eq_getElem (by omega)
      have ekk : k = [Sum.inr es[i].1, Sum.inr es[i].2] := by
        have z := congrArg (fun l => l[i]?) ek
        simp only [List.getElem?_map, hk, he, Option.map_some] at z
        exact Option.some.inj z
      subst ekk
      have hb' : _ = some (HO.tup [V.str es[i].1, V.str es[i].2]) := hb
      refine ⟨b, _, rfl, SqT.of hb', rfl, _, _, rfl, _, _, rfl, rfl, rfl, ?_⟩
      refine ⟨_, rfl, _, rfl, rfl, _, rfl, ?_⟩
      by_cases hx : es[i].1 = x
      · rw [decide_eq_true (show V.str es[i].1 = V.str x by rw [hx])]
        refine iteT ⟨_, rfl, _, hD, ?_, fun c o hc => ?_, ?_⟩
        · rw [List.length_map]
          have z1 := List.length_filter_le (fun e : Str × Str => decide (e.1 = x)) (es.take i)
          have z2 := List.length_take_le i es
          rw [sizeLine_eq]; omega
        · rw [upd_ne (ne_of_none hc nD)]
          exact sH _ _ hc
        · rw [upd_same, take_snoc he, List.filter_append, List.map_append]
          simp [hx]
      · rw [decide_eq_false (str_ne hx)]
        refine iteF ⟨sH, ?_⟩
        rw [hD, take_snoc he, List.filter_append, List.map_append]
        simp [hx]
    · rintro H' ⟨sH, hD⟩
      rw [List.take_of_length_le (by omega)] at hD
      have Dtb : D ≠ tb := fun e => by
        rw [e, upd_same] at nD
        cases nD
      refine ⟨sH _ _ upd_same, D, (es.filter (fun e => decide (e.1 = x))).map (·.2), rfl, SqL.of ?_, ?_, fun v ys H2 sm hv nd hm hl => q v ys H2 ((same_unlock h2 sH).trans sm) hv nd (fun y => ?_) ?_⟩
      · rw [upd_ne Dtb, hD, List.map_map]
        rfl
      · rw [List.length_map]
        have z1 := List.length_filter_le (fun e : Str × Str => decide (e.1 = x)) es
        omega
      · rw [hm y, List.mem_map]
        constructor
        · rintro ⟨e, he, rfl⟩
          obtain ⟨g1, g2⟩ := List.mem_filter.mp he
          have g3 : e.1 = x := of_decide_eq_true g2
          rw [← g3]
          exact (hmem e).1 g1
        · intro h
          exact ⟨(x, y), List.mem_filter.mpr ⟨(hmem _).2 h, decide_eq_true rfl⟩, rfl⟩
      · rw [List.length_map] at hl
        have z1 := List.length_filter_le (fun e : Str × Str => decide (e.1 = x)) es
        omega
/-! ### of -/
def spOf (K : PySem.W.Frag) (C : Addr) : Sp := fun vs H Q _ => ∃ v x r, vs = [v] ∧ Dp K H v (dRow (x :: r)) ∧ EOk (stp x r) ∧ ∀ p H', Same H H' → CAt K C H' p x (stp x r) → Q (.ref p) H'
theorem ones_in {E : List (Str × Str)} (o : EOk E) : StepsIn (E.map fun e => (e.1, e.2, (1 : Int))) := fun t ht => by
  obtain ⟨e, he, rfl⟩ := List.mem_map.mp ht
  exact ⟨o.un e he, (by decide : (0 : Int) ≤ 1)⟩
theorem pair_at {K : PySem.W.Frag} {H : Hp} {xs : List V} {es : List (Str × Str)} (hA : DpAll K H xs (es.map dPair)) {i : Nat} {x : V} (hx : xs[i]? = some x) : ∃ e p, es[i]? = some e ∧ e ∈ es ∧ x = V.ref p ∧ SqT K H p [.str e.1, .str e.2] := by
  obtain ⟨d, e1, e2⟩ := dpAll_at hA hx
  rw [List.getElem?_map] at e1
  cases et : es[i]? with
  | none => rw [et] at e1; cases e1
  | some t =>
    rw [et] at e1
    have e1' : dPair t = d := Option.some.inj e1
    subst e1'
    obtain ⟨p, ex, hp⟩ := dp_pair e2
    exact ⟨t, p, rfl, List.mem_of_getElem? et, ex, hp⟩
theorem ok_of {f fS fI : Addr} {fd fdS fdI : FuncData} (F : Fun K "of" "Counts.of" sOf f fd) (I : Gi P w K mg base C fI fdI) (S : Gd P w K mg base 3 "steps_of" ["journey"] (spStepsOf K) fS fdS) : FnOk P w K mg base CX0 6 f fd ["journey"] (spOf K C) := by
  refine F.ok scOf (fun vs H Q E h => ?_) (fun cdv A outer sh H vs Q E hr h => ?_)
  · obtain ⟨v, x, r, rfl, _⟩ := h
    rfl
  · obtain ⟨v, x, r, rfl, hD, ho, q⟩ := h
    have hr3 : Room 3 _ := hr.mono (by decide)
    have hlen : (stp x r).length = r.length := stp_length r x
    have hle := ho.le
    obtain ⟨a, rfl, hT⟩ := dp_row hD
    refine ⟨_, pss_one (ps_ret (pe_gi I hr (by rfl) (pa_cons (pe_ix ix_tup (pv 0) pe_int (fun _ _ => rfl)) (pa_cons
      (pe_lc (own := [("one", 1), ("other", 2)]) (g := gTup K 2 (gCons (gName 1) (gCons (gName 2) gNil))) (tt := tYes) (te := tTup (tCons (tVar 1) (tCons (tVar 2) (tCons (tC (.int 1)) tNil)))) (by rfl) scOf.nd (pi_tup (pe_g S hr3 (by rfl) (pa_cons (pv 0) pa_nil)))
        (blkOk_by (own := [("one", 1), ("other", 2)]) (N := ["journey", "one", "other"]) (sc := defScope sOf) (by decide +kernel))
        (fun _ _ _ _ _ => pg_tup rfl (pgs_cons (pg_name (i := 1) scOf.nd rfl (.inl rfl)) (pgs_cons (pg_name (i := 2) scOf.nd rfl (.inl rfl)) pgs_nil)))
        (fun _ _ _ _ _ => pts_nil) (fun _ _ _ _ _ => pe_tup (pa_cons (pv 1) (pa_cons (pv 2) (pa_cons pe_int pa_nil))))) pa_nil)))), ?_⟩
    have at0 : atI ((x :: r).map V.str) 0 = some (.str x) := atI_nat (j := 0) rfl
    refine ⟨_, rfl, a, _, _, _, rfl, rfl, hT, at0, _, rfl, _, x :: r, rfl, hD, by rw [List.length_cons]; omega, fun v' H1 s1 d1 => ?_⟩
    rw [show (x :: r).drop 1 = r from rfl, stp_zip] at d1
    obtain ⟨b, xs, rfl, hb, hA⟩ := dp_tup d1
    have hxl : xs.length = (stp x r).length := by rw [dpAll_len hA, List.length_map]
    refine ⟨b, rfl, ⟨_, hb⟩, fun D nD => ?_⟩
    refine lc_tup (K := K) (a := b) (xs := xs) (fun i H' => Same H1 H' ∧ ∃ acc, H' D = some (.lst acc) ∧ acc.length = i ∧ DpAll K H' acc ((((stp x r).map fun e => (e.1, e.2, (1 : Int))).take i).map dTri)) ⟨same_upd nD, [], upd_same, rfl, .nil⟩ (fun i H' _ h => Same.tup' h.1 hb) ?_ ?_
    · rintro i y H' hi ⟨sH, acc, hacc, hal, hdp⟩
      obtain ⟨e, p, he, _, rfl, hp⟩ := pair_at hA hi
      refine ⟨p, _, rfl, Same.tup' sH hp, rfl, _, _, rfl, _, _, rfl, rfl, rfl, _, rfl, _, rfl, (by show 3 ≤ sizeLine; decide), fun T nT => ?_⟩
      have sT := same_upd (o := .tup [.str e.1, .str e.2, .int 1]) nT
      have hacc2 := sT _ _ hacc
      refine ⟨acc, hacc2, ?_, fun c o hc => ?_, acc ++ [.ref T], upd_same, by rw [List.length_append, hal]; rfl, ?_⟩
      · have hlt := (List.getElem?_eq_some_iff.mp he).1
        rw [hal, sizeLine_eq]; omega
      · rw [upd_ne (ne_of_none hc nD)]
        exact sT _ _ (sH _ _ hc)
      · have hmi : ((stp x r).map fun e => (e.1, e.2, (1 : Int)))[i]? = some (e.1, e.2, 1) := by rw [List.getElem?_map, he]; rfl
        rw [take_snoc hmi, List.map_append]
        have fx : Fix _ (upd _ D (.lst (acc ++ [.ref T]))) := fix_upd hacc2
        exact dpAll_app (dpAll_fix fx _ _ (noL_tris _) (dpAll_same sT _ _ hdp)) (.cons (dp_fix fx _ _ (noL_tri _) (tri_dp (t := (e.1, e.2, 1)) (SqT.of upd_same))) .nil)
    · rintro H' ⟨sH, acc, hacc, hal, hdp⟩
      rw [List.take_of_length_le (by rw [List.length_map]; omega)] at hdp
      have l1 : ((stp x r).map fun e => (e.1, e.2, (1 : Int))).length < 1000 := by rw [List.length_map]; omega
      have l2 : (exp ((stp x r).map fun e => (e.1, e.2, (1 : Int)))).length < 1000 := by rw [exp_one]; omega
      refine made (.inl (.lst (SqL.of hacc) hdp)) (ones_in ho) l1 l2 fun p H2 s2 c => q p H2 ((s1.trans sH).trans s2) ?_
      rw [exp_one] at c
      exact c
/-! ### begun -/
def spBegun (K : PySem.W.Frag) (C : Addr) : Sp := fun vs H Q _ => ∃ p s E x, vs = [.ref p, .str x] ∧ CAt K C H p s E ∧ EOk E ∧ ∀ p' H', Same H H' → CAt K C H' p' x E → Q (.ref p') H'
theorem ok_begun {f fI pS fS : Addr} {fd fdI fdS : FuncData} (F : Fun K "begun" "Counts.begun" sBegun f fd) (I : Gi P w K mg base C fI fdI) (S : Gp P w K mg base 1 C "steps" ["self"] (spSteps K C) pS fS fdS) : FnOk P w K mg base CX0 6 f fd ["self", "place"] (spBegun K C) := by
  refine F.ok scBegun (fun vs H Q E h => ?_) (fun cdv A outer sh H vs Q E hr h => ?_)
  · obtain ⟨p, s, E, x, rfl, _⟩ := h
    rfl
  · obtain ⟨p, s, E, x, rfl, c, ho, q⟩ := h
    have hr2 : Room 2 _ := hr.mono (by decide)
    refine ⟨_, pss_one (ps_ret (pe_gi I hr (by rfl) (pa_cons (pv 1) (pa_cons (pe_gp (pv 0) S hr2 rfl) pa_nil)))), ?_⟩
    obtain ⟨dx, tb, st, os, is, kt, ko, ki, ts, h1, h2, h3, h4, h5, h6, h7, h8, h9⟩ := id c.ex
    refine ⟨_, rfl, _, rfl, p, dx, _, rfl, h1, p, s, E, rfl, c, fun st ts hst T => ?_⟩
    exact made (.inr hst) (T.stepsIn ho) (T.small ho).1 (T.small ho).2 fun p' H2 s2 c2 => q p' H2 s2 (c2.perm T.exp)
/-! ### counts - counts -/
def subT (E2 : List (Str × Str)) (t : Tri) : Tri := (t.1, t.2.1, t.2.2 - (E2.count (t.1, t.2.1) : Int))
theorem sub_counts {ts : List Tri} {E E2 : List (Str × Str)} (T : Tally ts E) (h : ∀ e, E2.count e ≤ E.count e) (e : Str × Str) : (exp (ts.map (subT E2))).count e = E.count e - E2.count e := by
  have nd : ((ts.map (subT E2)).map fun t => (t.1, t.2.1)).Nodup := by
    rw [List.map_map]
    exact T.nd
  obtain ⟨c1, c2⟩ := count_exp nd e
  by_cases he : e ∈ E
  · obtain ⟨t, ht, et⟩ := T.all e he
    rw [c1 (subT E2 t) (List.mem_map.mpr ⟨t, ht, rfl⟩) et]
    show (t.2.2 - (E2.count (t.1, t.2.1) : Int)).toNat = _
    rw [(T.ct t ht).1, et]
    omega
  · rw [c2 fun t ht et => he ?_, List.count_eq_zero_of_not_mem he, Nat.zero_sub]
    obtain ⟨u, hu, rfl⟩ := List.mem_map.mp ht
    exact et ▸ (T.ct u hu).2
theorem sub_len (E2 : List (Str × Str)) : ∀ ts : List Tri, (exp (ts.map (subT E2))).length ≤ (exp ts).length
  | [] => Nat.le_refl _
  | t :: ts => by
    rw [List.map_cons, exp_cons, exp_cons, List.length_append, List.length_append, List.length_replicate, List.length_replicate]
    have := sub_len E2 ts
    have : (subT E2 t).2.2.toNat ≤ t.2.2.toNat := by
      show (t.2.2 - (E2.count (t.1, t.2.1) : Int)).toNat ≤ _
      omega
    omega
def spSub (K : PySem.W.Frag) (C : Addr) : Sp := fun vs H Q _ => ∃ p s E p2 s2 E2, vs = [.ref p, .ref p2] ∧ CAt K C H p s E ∧ CAt K C H p2 s2 E2 ∧ EOk E ∧ (∀ e, E2.count e ≤ E.count e) ∧
  ∀ p' E' H', Same H H' → CAt K C H' p' s E' → (∀ e, E'.count e = E.count e - E2.count e) → Q (.ref p') H'
theorem ok_sub {f fI pS fS fX : Addr} {fd fdI fdS fdX : FuncData} (F : Fun K "__sub__" "Counts.__sub__" sSub f fd) (I : Gi P w K mg base C fI fdI) (S : Gp P w K mg base 1 C "steps" ["self"] (spSteps K C) pS fS fdS)
    (G : Gx P w K mg base 1 C fX fdX) (ic : C8.InsC K C) (B : Bn mg) : FnOk P w K mg base CX0 6 f fd ["self", "other"] (spSub K C) := by
  refine F.ok scSub (fun vs H Q E h => ?_) (fun cdv A outer sh H vs Q E hr h => ?_)
  · obtain ⟨p, s, E, p2, s2, E2, rfl, _⟩ := h
    rfl
  · obtain ⟨p, s, E, p2, s2, E2, rfl, c, c2, ho, hle, q⟩ := h
    have hr2 : Room 2 _ := hr.mono (by decide)
    obtain ⟨dx, tb, st, os, is, kt, ko, ki, ts', h1, h2, h3, h4, h5, h6, h7, h8, h9⟩ := id c.ex
    obtain ⟨dx2, tb2, st2, os2, is2, kt2, ko2, ki2, ts2', g1, g2, g3, g4, g5, g6, g7, g8, g9⟩ := id c2.ex
    refine ⟨_, pss_cons (ps_if (pt_not (pt_val (pe_callB (C8.call_isC ic) (by rfl) B.isi (by decide +kernel) (pa_cons (pv 1) (pa_cons (pe_glob (by rfl) I.tx.mgC (v := .ref C) rfl) pa_nil))))) (pss_one ps_never) pss_nil)
      (pss_cons (ps_for PassesOwn.never rfl (pi_tup (pe_gp (pv 1) S hr2 rfl)) (pg_tup rfl (pgs_cons (pg_name (i := 2) scSub.nd rfl (.inl rfl)) (pgs_cons (pg_name (i := 3) scSub.nd rfl (.inl rfl)) (pgs_cons (pg_name (i := 4) scSub.nd rfl (.inl rfl)) pgs_nil))))
        (pss_one (ps_if (pt_cmpR op_gt (pv 4) (pe_gx G hr2 (pv 0) (pe_tup (pa_cons (pv 2) (pa_cons (pv 3) pa_nil)))) (nomark _)) (pss_one ps_never) pss_nil)))
      (pss_one (ps_ret (pe_gi I hr (by rfl) (pa_cons (pe_fld (pv 0) rfl) (pa_cons
        (pe_lc (own := [("one", 2), ("two", 3), ("many", 4)]) (g := gTup K 3 (gCons (gName 2) (gCons (gName 3) (gCons (gName 4) gNil)))) (tt := tYes)
          (te := tTup (tCons (tVar 2) (tCons (tVar 3) (tCons (tOp (rI0 fun i j => .int (i - j)) (tVar 4) (tOp (rOwnIx C (spItem K C) [] E0) (tVar 1) (tTup (tCons (tVar 2) (tCons (tVar 3) tNil))))) tNil)))) (by rfl) scSub.nd (pi_tup (pe_gp (pv 0) S hr2 rfl))
          (blkOk_by (own := [("one", 2), ("two", 3), ("many", 4)]) (N := ["self", "other", "one", "two", "many"]) (sc := defScope sSub) (by decide +kernel))
          (fun _ _ _ _ _ => pg_tup rfl (pgs_cons (pg_name (i := 2) scSub.nd rfl (.inl rfl)) (pgs_cons (pg_name (i := 3) scSub.nd rfl (.inl rfl)) (pgs_cons (pg_name (i := 4) scSub.nd rfl (.inl rfl)) pgs_nil))))
          (fun _ _ _ _ _ => pts_nil) (fun _ _ _ _ _ => pe_tup (pa_cons (pv 2) (pa_cons (pv 3) (pa_cons (pe_op op_sub (pv 4) (pe_gx G hr2 (pv 1) (pe_tup (pa_cons (pv 2) (pa_cons (pv 3) pa_nil))))) pa_nil))))) pa_nil)))))), ?_⟩
    -- isinstance(other, Counts)
    refine ⟨_, rfl, p2, dx2, _, rfl, g1, _, rfl, ?_⟩
    refine iteF ?_
    -- for one, two, many in other.steps
    refine ⟨_, rfl, p2, dx2, _, rfl, g1, p2, s2, E2, rfl, c2, fun st2 ts2 hst2 T2 => ?_⟩
    obtain ⟨a2, xs2, rfl, hS2, hA2⟩ := dp_tup hst2
    refine ⟨a2, rfl, ⟨_, hS2⟩, L2.for_tup (K := K) (a := a2) (xs := xs2) (fun i σ H' => Same H H' ∧ ∃ x1 x2 x3, σ = [some (.ref p), some (.ref p2), x1, x2, x3]) ⟨Same.refl H, none, none, none, rfl⟩ (fun i σ H' _ h => Same.tup' h.1 hS2) ?_ ?_⟩
    · rintro i x σ H' hx ⟨sH, x1, x2, x3, rfl⟩
      obtain ⟨t, b, _, ht, rfl, hb⟩ := tri_at hA2 hx
      refine ⟨b, _, rfl, Same.tup' sH hb, rfl, _, _, rfl, _, _, rfl, _, _, rfl, rfl, ?_⟩
      refine ⟨_, rfl, _, rfl, _, rfl, _, rfl, (by show 2 ≤ sizeLine; decide), fun T nT => ?_⟩
      have sT := same_upd (o := .tup [.str t.1, .str t.2.1]) nT
      refine ⟨p, dx, _, rfl, sT _ _ (sH _ _ h1), p, s, E, T, t.1, t.2.1, rfl, c.same (sH.trans sT), upd_same, ?_⟩
      refine ⟨_, _, rfl, rfl, _, rfl, ?_⟩
      rw [decide_eq_false (by rw [(T2.ct t ht).1]; have := hle (t.1, t.2.1); omega)]
      exact iteF ⟨sH.trans sT, _, _, _, rfl⟩
    · rintro σ H1 ⟨s1, x1, x2, x3, rfl⟩
      have hp1 := s1 _ _ h1
      -- Counts(self.own_start, [..])
      refine ⟨_, rfl, p, C, dx, _, _, rfl, hp1, I.tx.cl, I.tx.n1, flds_start, _, rfl, p, dx, _, rfl, hp1, p, s, E, rfl, c.same s1, fun st3 ts hst3 T => ?_⟩
      obtain ⟨a3, xs, rfl, hS3, hA3⟩ := dp_tup hst3
      have hxl : xs.length = ts.length := by rw [dpAll_len hA3, List.length_map]
      have hsm := T.small ho
      refine ⟨a3, rfl, ⟨_, hS3⟩, fun D nD => ?_⟩
      refine lc_tup (K := K) (a := a3) (xs := xs) (fun i H' => Same H1 H' ∧ ∃ acc, H' D = some (.lst acc) ∧ acc.length = i ∧ DpAll K H' acc (((ts.map (subT E2)).take i).map dTri)) ⟨same_upd nD, [], upd_same, rfl, .nil⟩ (fun i H' _ h => Same.tup' h.1 hS3) ?_ ?_
      · rintro i y H' hi ⟨sH, acc, hacc, hal, hdp⟩
        obtain ⟨t, b, he, ht, rfl, hb⟩ := tri_at hA3 hi
        refine ⟨b, _, rfl, Same.tup' sH hb, rfl, _, _, rfl, _, _, rfl, _, _, rfl, rfl, rfl, _, rfl, _, rfl, _, rfl, _, rfl, _, rfl, _, rfl, (by show 2 ≤ sizeLine; decide), fun T2 n2 => ?_⟩
        have sT2 := same_upd (o := .tup [.str t.1, .str t.2.1]) n2
        refine ⟨p2, dx2, _, rfl, sT2 _ _ (sH _ _ (s1 _ _ g1)), p2, s2, E2, T2, t.1, t.2.1, rfl, c2.same ((s1.trans sH).trans sT2), upd_same, ?_⟩
        refine ⟨_, _, rfl, rfl, (by show 3 ≤ sizeLine; decide), fun T3 n3 => ?_⟩
        have sT3 := same_upd (o := .tup [.str t.1, .str t.2.1, .int (t.2.2 - (E2.count (t.1, t.2.1) : Int))]) n3
        have hacc2 := sT3 _ _ (sT2 _ _ hacc)
        refine ⟨acc, hacc2, ?_, fun c o hc => ?_, acc ++ [.ref T3], upd_same, by rw [List.length_append, hal]; rfl, ?_⟩
        · have hlt := (List.getElem?_eq_some_iff.mp he).1
          have := hsm.1
          rw [hal, sizeLine_eq]; omega
        · rw [upd_ne (ne_of_none hc nD)]
          exact sT3 _ _ (sT2 _ _ (sH _ _ hc))
        · have hmi : (ts.map (subT E2))[i]? = some (subT E2 t) := by rw [List.getElem?_map, he]; rfl
          rw [take_snoc hmi, List.map_append]
          have fx : Fix _ (upd _ D (.lst (acc ++ [.ref T3]))) := fix_upd hacc2
          exact dpAll_app (dpAll_fix fx _ _ (noL_tris _) (dpAll_same (sT2.trans sT3) _ _ hdp)) (.cons (dp_fix fx _ _ (noL_tri _) (tri_dp (t := subT E2 t) (SqT.of upd_same))) .nil)
      · rintro H' ⟨sH, acc, hacc, hal, hdp⟩
        rw [List.take_of_length_le (by rw [List.length_map]; omega)] at hdp
        have l1 : (ts.map (subT E2)).length < 1000 := by rw [List.length_map]; exact hsm.1
        have l2 : (exp (ts.map (subT E2))).length < 1000 := Nat.lt_of_le_of_lt (sub_len E2 ts) hsm.2
        refine made (.inl (.lst (SqL.of hacc) hdp)) (fun t ht => ?_) l1 l2 fun p' H2 s2' c' => q p' _ H2 ((s1.trans sH).trans s2') c' (sub_counts T hle)
        obtain ⟨u, hu, rfl⟩ := List.mem_map.mp ht
        refine ⟨(T.stepsIn ho u hu).1, ?_⟩
        show 0 ≤ u.2.2 - (E2.count (u.1, u.2.1) : Int)
        rw [(T.ct u hu).1]
        have := hle (u.1, u.2.1)
        omega
end
end K76
set_option Elab.async false
set_option linter.all false
set_option maxRecDepth 100000
/-! The walk, sixth part: surplus, pieces. -/
namespace K76
open PySem PySem.Spec PyProof.Rows L2
def dSur (m : Str × Int) : PyData := .tuple [.str m.1, .int m.2]
theorem dp_sur {K : PySem.W.Frag} {H : Hp} {v : V} {m : Str × Int} (h : Dp K H v (dSur m)) : ∃ a, v = .ref a ∧ SqT K H a [.str m.1, .int m.2] := by
  obtain ⟨a, vs, e, h1, h2⟩ := dp_tup h
  cases h2 with
  | cons x1 r => cases r with
    | cons x2 r =>
      cases r
      rw [dp_str x1, dp_int x2] at h1
      exact ⟨a, e, h1⟩
theorem sur_dp {K : PySem.W.Frag} {H : Hp} {a : Addr} {m : Str × Int} (h : SqT K H a [.str m.1, .int m.2]) : Dp K H (.ref a) (dSur m) := .tup h (.cons (.str _) (.cons (.int _) .nil))
theorem noL_sur (ms : List (Str × Int)) : noLs (ms.map dSur) = true := noLs_all fun d hd => by
  obtain ⟨x, _, rfl⟩ := List.mem_map.mp hd
  rfl
def sur (E : List (Str × Str)) (x : Str) : Int := (outs E x : Int) - (inns E x : Int)
/-- the surplus of the places ps -/
def surs (E : List (Str × Str)) (ps : List Str) : List (Str × Int) := (ps.filter fun x => decide (sur E x ≠ 0)).map fun x => (x, sur E x)
theorem sur_place {s : Str} {E : List (Str × Str)} {x : Str} (h : sur E x ≠ 0) : IsPlace s E x := by
  by_cases h1 : outs E x = 0
  · by_cases h2 : inns E x = 0
    · exact absurd (by unfold sur; rw [h1, h2]; rfl) h
    · have : 0 < inns E x := Nat.pos_of_ne_zero h2
      obtain ⟨e, he, hx⟩ := List.countP_pos_iff.mp this
      exact .inr ⟨e, he, .inr (of_decide_eq_true hx)⟩
  · have : 0 < outs E x := Nat.pos_of_ne_zero h1
    obtain ⟨e, he, hx⟩ := List.countP_pos_iff.mp this
    exact .inr ⟨e, he, .inl (of_decide_eq_true hx)⟩
def SurOk (ms : List (Str × Int)) (E : List (Str × Str)) : Prop := ∀ m, m ∈ ms ↔ (m.2 = sur E m.1 ∧ m.2 ≠ 0)
theorem surOk {s : Str} {E : List (Str × Str)} {ps : List Str} (h : ∀ x, x ∈ ps ↔ IsPlace s E x) : SurOk (surs E ps) E := fun m => by
  unfold surs
  rw [List.mem_map]
  constructor
  · rintro ⟨x, hx, rfl⟩
    exact ⟨rfl, of_decide_eq_true (List.mem_filter.mp hx).2⟩
  · rintro ⟨h1, h2⟩
    refine ⟨m.1, List.mem_filter.mpr ⟨(h _).2 (sur_place (by rw [← h1]; exact h2)), decide_eq_true (by rw [← h1]; exact h2)⟩, ?_⟩
    rw [← h1]
theorem fl_outs {s : Str} {tb os is : Addr} {st : V} : (flds s tb st os is).lookup ("outs" : Str) = none := flds_no (by decide +kernel) (by decide +kernel) (by decide +kernel) (by decide +kernel) (by decide +kernel)
theorem fl_ins {s : Str} {tb os is : Addr} {st : V} : (flds s tb st os is).lookup ("ins" : Str) = none := flds_no (by decide +kernel) (by decide +kernel) (by decide +kernel) (by decide +kernel) (by decide +kernel)
theorem CAt.obj {K : PySem.W.Frag} {C : Addr} {H : Hp} {p : Addr} {s : Str} {E : List (Str × Str)} (c : CAt K C H p s E) : ∃ dx tb st os is, H p = some (.ins C dx (flds s tb st os is)) := by
  obtain ⟨dx, tb, st, os, is, kt, ko, ki, ts, h1, _⟩ := c.ex
  exact ⟨dx, tb, st, os, is, h1⟩
section
variable {P : Program} {w : World} {K : PySem.W.Frag} {mg : Str → Option Value} {base : Heap} {C : Addr}
def spSurplus (K : PySem.W.Frag) (C : Addr) : Sp := fun vs H Q _ => ∃ p s E, vs = [.ref p] ∧ CAt K C H p s E ∧ E.length ≤ 30 ∧
  ∀ v ms H', Same H H' → Dp K H' v (.tuple (List.map dSur ms)) → ms.length ≤ 61 → SurOk ms E → Q v H'
theorem ok_surplus {f pP fP fO fI : Addr} {fd fdP fdO fdI : FuncData} (F : Fun K "surplus" "surplus" sSurplus f fd) (B : Bn mg) (PL : Gp P w K mg base 2 C "places" ["self"] (spPlaces K C) pP fP fdP)
    (GO : Gm P w K mg base 1 C "outs" ["self", "place"] (spOutsIns K C false) fO fdO) (GI : Gm P w K mg base 1 C "ins" ["self", "place"] (spOutsIns K C true) fI fdI) : FnOk P w K mg base CX0 4 f fd ["counts"] (spSurplus K C) := by
  refine F.ok scSurplus (fun vs H Q E h => ?_) (fun cdv A outer sh H vs Q E hr h => ?_)
  · obtain ⟨p, s, E, rfl, _⟩ := h
    rfl
  · obtain ⟨p, s, E, rfl, c, hE, q⟩ := h
    have hr1 : Room 1 _ := hr.mono (by decide)
    refine ⟨_, pss_cons (ps_set (i := 1) scSurplus.nd rfl (.inl rfl) (pe_lst pa_nil))
      (pss_cons (ps_for PassesOwn.never rfl (pi_tup (pe_gp (pv 0) PL hr rfl)) (pg_name (i := 2) scSurplus.nd rfl (.inl rfl))
        (pss_cons (ps_set (i := 3) scSurplus.nd rfl (.inl rfl) (pe_op op_sub (pe_gm (pv 0) GO hr1 (pa_cons (pv 2) pa_nil)) (pe_gm (pv 0) GI hr1 (pa_cons (pv 2) pa_nil))))
        (pss_one (ps_if (pt_cmpR op_ne (pv 3) pe_int (nomark _)) (pss_one (ps_expr (pe_bm PySem.F.plainAttrs_list PySem.F.slot_list_append PySem.F.type_list_append mt_append (pv 1) (pa_cons (pe_tup (pa_cons (pv 2) (pa_cons (pv 3) pa_nil))) pa_nil)))) pss_nil))))
      (pss_one (ps_ret (pe_callTy call_tuple_of (by rfl) B.tuple (by decide +kernel) (pa_cons (pv 1) pa_nil))))), ?_⟩
    obtain ⟨dx, tb, st, os, is, h1⟩ := c.obj
    refine ⟨Nat.zero_le _, fun l nl => ?_⟩
    have s0 := same_upd (o := .lst []) nl
    refine ⟨_, rfl, p, dx, _, rfl, s0 _ _ h1, p, s, E, rfl, c.same s0, hE, fun v ps H1 s1 hv hnd hm hl => ?_⟩
    have hl1 := s1 _ _ (upd_same (H := H) (a := l) (o := .lst []))
    refine ⟨v, rfl, ⟨_, hv⟩, L2.for_tup (K := K) (a := v) (xs := ps.map V.str) (fun i σ H' => Same H H' ∧ Fix H1 H' ∧ (∃ vs, H' l = some (.lst vs) ∧ vs.length ≤ i ∧ DpAll K H' vs ((surs E (ps.take i)).map dSur)) ∧ ∃ x1 x2, σ = [some (.ref p), some (.ref l), x1, x2])
      ⟨s0.trans s1, Fix.refl _, ⟨[], hl1, Nat.le_refl _, .nil⟩, none, none, rfl⟩ (fun i σ H' _ h => h.2.1.tup hv) ?_ ?_⟩
    · rintro i x σ H' hx ⟨sH, fH, ⟨vs, hvs, hvl, hdp⟩, x1, x2, rfl⟩
      rw [List.getElem?_map] at hx
      obtain ⟨y, hy, rfl⟩ : ∃ y, ps[i]? = some y ∧ x = .str y := by
        cases e : ps[i]? with
        | none => rw [e] at hx; cases hx
        | some y => rw [e] at hx; exact ⟨y, rfl, (Option.some.inj hx).symm⟩
      have hil := (List.getElem?_eq_some_iff.mp hy).1
      have cH := c.same sH
      have hp' := sH _ _ h1
      refine ⟨_, rfl, p, dx, _, rfl, hp', fl_outs, _, rfl, p, s, E, y, rfl, cH, ?_⟩
      refine ⟨_, rfl, p, dx, _, rfl, hp', fl_ins, _, rfl, p, s, E, y, rfl, cH, _, _, rfl, rfl, ?_⟩
      refine ⟨_, rfl, rfl, _, rfl, ?_⟩
      show if (!decide (V.int (sur E y) = V.int 0)) = true then _ else _
      by_cases h0 : sur E y = 0
      · rw [h0, decide_eq_true rfl]
        refine iteF ⟨sH, fH, ⟨vs, hvs, by omega, ?_⟩, _, _, rfl⟩
        have e : surs E (ps.take (i + 1)) = surs E (ps.take i) := by
          unfold surs
          rw [take_snoc hy, List.filter_append, List.map_append]
          simp [h0]
        rw [e]
        exact hdp
      · rw [decide_eq_false (fun z => h0 (V.int.inj z))]
        refine iteT ⟨_, rfl, .inl ⟨rfl, _, SqL.of hvs⟩, _, rfl, _, rfl, (by show 2 ≤ sizeLine; decide), fun T nT => ?_⟩
        have sT := same_upd (o := .tup [.str y, .int (sur E y)]) nT
        have hvs2 := sT _ _ hvs
        refine ⟨l, vs, _, rfl, rfl, hvs2, by rw [sizeLine_eq]; omega, fun b o hb => ?_, fH.trans ((Same.fix sT).trans (fix_upd hvs2)), ⟨vs ++ [.ref T], upd_same, by rw [List.length_append]; exact Nat.succ_le_succ hvl, ?_⟩, _, _, rfl⟩
        · rw [upd_ne (ne_of_none hb nl)]
          exact sT _ _ (sH _ _ hb)
        · have e : surs E (ps.take (i + 1)) = surs E (ps.take i) ++ [(y, sur E y)] := by
            unfold surs
            rw [take_snoc hy, List.filter_append, List.map_append]
            simp [h0]
          rw [e, List.map_append]
          have fx : Fix _ (upd _ l (.lst (vs ++ [.ref T]))) := fix_upd hvs2
          exact dpAll_app (dpAll_fix fx _ _ (noL_sur _) (dpAll_same sT _ _ hdp)) (.cons (dp_fix fx _ _ rfl (sur_dp (m := (y, sur E y)) (SqT.of upd_same))) .nil)
    · rintro σ H' ⟨sH, fH, ⟨vs, hvs, hvl, hdp⟩, x1, x2, rfl⟩
      rw [List.take_of_length_le (by rw [List.length_map]; exact Nat.le_refl _)] at hdp
      refine ⟨_, rfl, l, vs, rfl, .inl ⟨SqL.of hvs, fun t nt => ?_⟩⟩
      have st := same_upd (o := .tup vs) nt
      exact q (.ref t) (surs E ps) _ (sH.trans st) (.tup (SqT.of upd_same) (dpAll_same st _ _ hdp)) (by
        unfold surs
        rw [List.length_map]
        exact Nat.le_trans (List.length_filter_le _ _) hl) (surOk hm)
end
end K76
set_option Elab.async false
set_option linter.all false
set_option maxRecDepth 100000
/-! The walk, seventh part: pieces. -/
namespace K76
open PySem PySem.Spec PyProof.Rows L2
theorem dc_it {J : It} {n : Nat} {G : Hp → Prop} {Y : Nat → Hp → V → Hp → Prop} (w : Walk J n G Y) {g : TG} {tt : TT} {tk tv : TE} {vs : List Nat} {σ : L2.St} {H1 : Hp} {D : Addr} {Qd : Hp → Prop} (Pv : Nat → Hp → Prop) (h0 : Pv 0 (upd H1 D (.dK []))) (hG : ∀ i H, i ≤ n → Pv i H → G H)
    (hs : ∀ i x H H', i < n → Pv i H → Y i H x H' → g x (wipe σ vs) H' fun σ2 H2 => wipe σ2 vs = wipe σ vs ∧ tt σ2 H2 fun b H3 =>
      if b = true then tk σ2 H3 fun y H4 => tv σ2 H4 fun z H5 => ∃ kvs k, y = kV k ∧ H5 D = some (.dK kvs) ∧ kvs.length < sizeLine ∧ Pv (i + 1) (upd H5 D (.dK (putK kvs k z))) else Pv (i + 1) H3) (hd : ∀ H, Pv n H → Qd H) :
    ∃ W : Nat → Nat → Hp → Prop, (∃ m, W 0 m (upd H1 D (.dK []))) ∧ ∀ i m H, W i m H →
      (J.stop i H ∧ Qd H) ∨ (J.go i H ∧ ∃ Nx : Hp → Prop, (∀ H', Nx H' → ∃ m', m' < m ∧ W (i + 1) m' H') ∧ ∀ x H', J.yld i H x H' → g x (wipe σ vs) H' fun σ2 H2 => wipe σ2 vs = wipe σ vs ∧ tt σ2 H2 fun b H3 =>
        if b = true then tk σ2 H3 fun y H4 => tv σ2 H4 fun z H5 => ∃ kvs k, y = kV k ∧ H5 D = some (.dK kvs) ∧ kvs.length < sizeLine ∧ Nx (upd H5 D (.dK (putK kvs k z))) else Nx H3) := by
  refine ⟨fun i m H => m = n - i ∧ i ≤ n ∧ Pv i H, ⟨n, by simp, Nat.zero_le _, h0⟩, ?_⟩
  rintro i m H ⟨rfl, hi, p⟩
  have q := hG i H hi p
  by_cases hlt : i < n
  · refine .inr ⟨w.goes i H hlt q, Pv (i + 1), fun H' p' => ⟨n - (i + 1), by omega, rfl, hlt, p'⟩, fun x H' y => hs i x H H' hlt p (w.yields i H x H' hlt q y)⟩
  · have e : i = n := by omega
    subst e
    exact .inl ⟨w.stops H q, hd H p⟩
/-! ### labels -/
def labK (ps : List Str) (lab : Str → Str) : List (Key × V) := ps.map fun x => (Sum.inr x, .str (lab x))
theorem labK_none {ps : List Str} {lab : Str → Str} {x : Str} (h : x ∉ ps) : valV (labK ps lab) (Sum.inr x) = none := by
  induction ps with
  | nil => rfl
  | cons y ps ih =>
    rw [List.mem_cons, not_or] at h
    show valV ((Sum.inr y, .str (lab y)) :: labK ps lab) (Sum.inr x) = none
    rw [valV_neg (fun e => h.1 (Sum.inr.inj e).symm)]
    exact ih h.2
theorem labK_some {ps : List Str} {lab : Str → Str} {x : Str} (h : x ∈ ps) : valV (labK ps lab) (Sum.inr x) = some (.str (lab x)) := by
  induction ps with
  | nil => simp at h
  | cons y ps ih =>
    show valV ((Sum.inr y, .str (lab y)) :: labK ps lab) (Sum.inr x) = _
    by_cases e : y = x
    · subst e
      exact valV_pos rfl
    · rw [valV_neg (fun z => e (Sum.inr.inj z))]
      exact ih ((List.mem_cons.mp h).resolve_left fun z => e z.symm)
theorem labK_put {ps : List Str} {lab : Str → Str} {i : Nat} {x : Str} (nd : ps.Nodup) (h : ps[i]? = some x) : putK (labK (ps.take i) lab) (Sum.inr x) (.str (lab x)) = labK (ps.take (i + 1)) lab := by
  have hn : x ∉ ps.take i := fun hm => by
    have hi := (List.getElem?_eq_some_iff.mp h).1
    have e : ps = ps.take i ++ x :: ps.drop (i + 1) := by
      have := (List.getElem?_eq_some_iff.mp h).2
      rw [← this, List.getElem_cons_drop, List.take_append_drop]
    rw [e, List.nodup_append] at nd
    exact nd.2.2 x hm x List.mem_cons_self rfl
  rw [putK_new _ (labK_none hn), take_snoc h]
  unfold labK
  rw [List.map_append]
  rfl
structure LabOk (ps : List Str) (E : List (Str × Str)) (ts : List Tri) (lab : Str → Str) : Prop where
  re : ∀ x ∈ ps, lab x ∈ ps ∧ Reach E x (lab x)
  eq : ∀ t ∈ ts, lab t.1 = lab t.2.1
theorem lab_step {ps : List Str} {E : List (Str × Str)} {ts : List Tri} {lab : Str → Str} {t : Tri} {l m : Str} (h : LabOk ps E ts lab) (ht : (t.1, t.2.1) ∈ E) (h1 : t.1 ∈ ps) (h2 : t.2.1 ∈ ps) (e : [l, m] = [lab t.1, lab t.2.1] ∨ [l, m] = [lab t.2.1, lab t.1]) :
    LabOk ps E (ts ++ [t]) (fun x => if lab x = m then l else lab x) := by
  have re1 := h.re _ h1
  have re2 := h.re _ h2
  have lm : l ∈ ps ∧ Reach E m l := by
    rcases e with e | e
    · injection e with e1 e2
      injection e2 with e2 _
      rw [e1, e2]
      exact ⟨re1.1, (re2.2.symm.trans (Reach.eno ht)).trans re1.2⟩
    · injection e with e1 e2
      injection e2 with e2 _
      rw [e1, e2]
      exact ⟨re2.1, (re1.2.symm.trans (Reach.one ht)).trans re2.2⟩
  refine ⟨fun x hx => ?_, fun u hu => ?_⟩
  · obtain ⟨r1, r2⟩ := h.re x hx
    show (if lab x = m then l else lab x) ∈ ps ∧ Reach E x (if lab x = m then l else lab x)
    by_cases c : lab x = m
    · rw [if_pos c]
      exact ⟨lm.1, (c ▸ r2).trans lm.2⟩
    · rw [if_neg c]
      exact ⟨r1, r2⟩
  · show (if lab u.1 = m then l else lab u.1) = if lab u.2.1 = m then l else lab u.2.1
    rcases List.mem_append.mp hu with z | z
    · rw [h.eq u z]
    · rw [List.mem_singleton.mp z]
      rcases e with e | e
      · injection e with e1 e2
        injection e2 with e2 _
        rw [e1, e2]
        by_cases c : lab t.1 = lab t.2.1
        · rw [if_pos c, if_pos rfl]
        · rw [if_neg c, if_pos rfl]
      · injection e with e1 e2
        injection e2 with e2 _
        rw [e1, e2]
        by_cases c : lab t.2.1 = lab t.1
        · rw [if_pos rfl, if_pos c]
        · rw [if_pos rfl, if_neg c]
theorem lab_end {s : Str} {ps : List Str} {E : List (Str × Str)} {ts : List Tri} {lab : Str → Str} (T : Tally ts E) (h : LabOk ps E ts lab) {x : Str} (hx : x ∈ ps) (hs : s ∈ ps) : lab x = lab s ↔ Reach E s x := by
  constructor
  · intro e
    exact (h.re s hs).2.trans (e ▸ (h.re x hx).2.symm)
  · intro r
    exact (Reach.kept (P := fun y => lab y = lab s) r (fun a b hab => by
      obtain ⟨t, ht, et⟩ := T.all _ hab
      have z := h.eq t ht
      injection et with e1 e2
      rw [e1, e2] at z
      rw [z]) rfl)
/-- the pieces: the one with s in it is what s can reach -/
def PcOk (s : Str) (E : List (Str × Str)) (pcs : List (List Str)) : Prop := (∃ pc ∈ pcs, s ∈ pc) ∧ ∀ pc ∈ pcs, s ∈ pc → ∀ x, x ∈ pc ↔ (IsPlace s E x ∧ Reach E s x)
theorem alike_strs : ∀ xs ys : List Str, PySem.W.alikeAll (xs.map .str) (ys.map .str) = true
  | [], _ => by simp [PySem.W.alikeAll]
  | _ :: _, [] => by simp [PySem.W.alikeAll]
  | x :: xs, y :: ys => by
    rw [List.map_cons, List.map_cons, PySem.W.alikeAll, alike_strs xs ys]
    simp [PySem.W.alike]
theorem alike_row (xs ys : List Str) : PySem.W.alike (dRow xs) (dRow ys) = true := by
  show PySem.W.alike (.tuple (xs.map .str)) (.tuple (ys.map .str)) = true
  rw [PySem.W.alike]
  exact alike_strs xs ys
theorem depth_strs : ∀ xs : List Str, PyData.depthAll (xs.map .str) ≤ 1
  | [] => by simp [PyData.depthAll]
  | x :: xs => by
    have := depth_strs xs
    rw [List.map_cons, PyData.depthAll]
    simp only [PyData.depth]
    omega
theorem depth_row (xs : List Str) : (dRow xs).depth ≤ 2 := by
  show PyData.depth (.tuple (xs.map .str)) ≤ 2
  have := depth_strs xs
  rw [PyData.depth]
  omega
def unS : PyData → Str
  | .str x => x
  | _ => Str.empty
def unRow : PyData → List Str
  | .tuple ds => ds.map unS
  | _ => []
theorem unRow_row (xs : List Str) : unRow (dRow xs) = xs := by
  show (xs.map PyData.str).map unS = xs
  rw [List.map_map]
  have : xs.map (unS ∘ PyData.str) = xs.map id := List.map_congr_left fun x _ => rfl
  rw [this, List.map_id]
theorem perm_rows {ds : List PyData} {es : List (List Str)} (h : ds.Perm (es.map dRow)) : ∃ fs : List (List Str), ds = fs.map dRow ∧ fs.Perm es := by
  refine ⟨ds.map unRow, ?_, ?_⟩
  · rw [List.map_map]
    have : ds.map (dRow ∘ unRow) = ds.map id := List.map_congr_left fun d hd => by
      obtain ⟨e, _, rfl⟩ := List.mem_map.mp (h.mem_iff.mp hd)
      show dRow (unRow (dRow e)) = dRow e
      rw [unRow_row]
    rw [this, List.map_id]
  · have q := h.map unRow
    rw [List.map_map] at q
    have : es.map (unRow ∘ dRow) = es.map id := List.map_congr_left fun e _ => unRow_row e
    rw [this, List.map_id] at q
    exact q
theorem dget_lab {H : Hp} {d : Addr} {ps : List Str} {lab : Str → Str} {x : Str} (h : Rd H d (.dK (labK ps lab))) (hx : x ∈ ps) : DGet H d (.str x) (some (.str (lab x))) := by
  rw [← labK_some hx]
  exact .inl ⟨_, Sum.inr x, h, rfl, rfl⟩
theorem perm_two {ys : List Str} {a b : Str} (h : ys.Perm [a, b]) : ∃ l m, ys = [l, m] ∧ ([l, m] = [a, b] ∨ [l, m] = [b, a]) := by
  match ys, h.length_eq with
  | [l, m], _ =>
    refine ⟨l, m, rfl, ?_⟩
    have h1 : l ∈ [a, b] := h.mem_iff.mp List.mem_cons_self
    rcases List.mem_cons.mp h1 with e | e
    · subst e
      have h2 := (List.perm_cons l).mp h
      rw [List.singleton_perm_singleton.mp h2]
      exact .inl rfl
    · have e := List.mem_singleton.mp e
      subst e
      have h2 := (List.perm_cons l).mp (h.trans (List.Perm.swap l a []))
      rw [List.singleton_perm_singleton.mp h2]
      exact .inr rfl
theorem labK_len (ps : List Str) (lab : Str → Str) : (labK ps lab).length = ps.length := List.length_map ..
theorem labK_at {ps : List Str} {lab : Str → Str} {i : Nat} {k : Key} {v : V} (h : (labK ps lab)[i]? = some (k, v)) : ∃ y, ps[i]? = some y ∧ k = Sum.inr y ∧ v = .str (lab y) := by
  unfold labK at h
  rw [List.getElem?_map] at h
  cases e : ps[i]? with
  | none => rw [e] at h; cases h
  | some y =>
    rw [e] at h
    injection h with h
    injection h with h1 h2
    exact ⟨y, rfl, h1.symm, h2.symm⟩
theorem str_at {xs : List Str} {i : Nat} {x : V} (hx : (xs.map V.str)[i]? = some x) : ∃ y, xs[i]? = some y ∧ x = .str y := by
  rw [List.getElem?_map] at hx
  cases e : xs[i]? with
  | none => rw [e] at hx; cases hx
  | some y => rw [e] at hx; exact ⟨y, rfl, (Option.some.inj hx).symm⟩
def scLot : Scope := { kind := .function, names := [(".0", .local), ("lot", .cell), ("set_of", .globalImplicit), ("lots", .free)], isGenerator := false, isCoroutine := false }
section
variable {P : Program} {w : World} {K : PySem.W.Frag} {mg : Str → Option Value} {base : Heap} {C : Addr}
def spPieces (K : PySem.W.Frag) (C : Addr) : Sp := fun vs H Q _ => ∃ p s E, vs = [.ref p] ∧ CAt K C H p s E ∧ E.length ≤ 30 ∧
  ∀ l vs' pcs H', Same H H' → H' l = some (.lst vs') → vs'.length ≤ 61 → DpAll K H' vs' (List.map dRow pcs) → PcOk s E pcs → Q (.ref l) H'
theorem ok_pieces {f pP fP fS pT fT : Addr} {fd fdP fdS fdT : FuncData} (F : Fun K "pieces" "pieces" sPieces f fd) (B : Bn mg) (PL : Gp P w K mg base 2 C "places" ["self"] (spPlaces K C) pP fP fdP)
    (S : Gd P w K mg base 1 "set_of" ["things"] (spSetOf K) fS fdS) (GS : Gp P w K mg base 1 C "steps" ["self"] (spSteps K C) pT fT fdT) : FnOk P w K mg base CX0 4 f fd ["counts"] (spPieces K C) := by
  refine F.ok scPieces (fun vs H Q E h => ?_) (fun cdv A outer sh H vs Q E hr h => ?_)
  · obtain ⟨p, s, E, rfl, _⟩ := h
    rfl
  · obtain ⟨p, s, E, rfl, c, hE, q⟩ := h
    have hr1 : Room 1 _ := hr.mono (by decide)
    have hr2 : Room 2 _ := hr.mono (by decide)
    have hu := hu_of hr
    obtain ⟨dx, tb, st, os, is, h1⟩ := c.obj
    refine ⟨_, pss_cons (ps_set (i := 1) scPieces.nd rfl (.inr rfl) (pe_dc (own := [("place", 7)]) (g := gName 7) (tt := tYes) (by rfl) scPieces.nd (pi_tup (pe_gp (pv 0) PL hr rfl))
        (blkOk_by (own := [("place", 7)]) (N := ["counts", "lots", "one", "other", "many", "least", "most", "place", "lot"]) (sc := defScope sPieces) (by decide +kernel))
        (fun _ _ _ _ _ => pg_name (i := 7) scPieces.nd rfl (.inl rfl)) (fun _ _ _ _ _ => pts_nil) (fun _ _ _ _ _ => pv 7) (fun _ _ _ _ _ => pv 7)))
      (pss_cons (ps_for PassesOwn.never rfl (pi_tup (pe_gp (pv 0) GS hr2 rfl)) (pg_tup rfl (pgs_cons (pg_name (i := 2) scPieces.nd rfl (.inl rfl)) (pgs_cons (pg_name (i := 3) scPieces.nd rfl (.inl rfl)) (pgs_cons (pg_name (i := 4) scPieces.nd rfl (.inl rfl)) pgs_nil))))
        (pss_cons (ps_asg (pe_callB cr_sortedS (by rfl) B.sorted (by decide +kernel) (pa_cons (pe_lst (pa_cons (pe_dget hu (pv 1) (pv 2) (fun _ _ => rfl)) (pa_cons (pe_dget hu (pv 1) (pv 3) (fun _ _ => rfl)) pa_nil))) pa_nil))
            (pg_unl rfl (pgs_cons (pg_name (i := 5) scPieces.nd rfl (.inr rfl)) (pgs_cons (pg_name (i := 6) scPieces.nd rfl (.inr rfl)) pgs_nil))))
        (pss_one (ps_set (i := 1) scPieces.nd rfl (.inr rfl) (pe_lock (pe_dc (own := [("place", 7)]) (g := gName 7) (tt := tYes) (by rfl) scPieces.nd (pi_keys (pv 1))
          (blkOk_by (own := [("place", 7)]) (N := ["counts", "lots", "one", "other", "many", "least", "most", "place", "lot"]) (sc := defScope sPieces) (by decide +kernel))
          (fun _ _ _ _ _ => pg_name (i := 7) scPieces.nd rfl (.inl rfl)) (fun _ _ _ _ _ => pts_nil) (fun _ _ _ _ _ => pv 7)
          (fun _ _ _ _ _ => pe_ifExp (pt_cmpR op_eq (pe_dget hu (pv 1) (pv 7) (fun _ _ => rfl)) (pv 6) (nomark _)) (pv 5) (pe_dget hu (pv 1) (pv 7) (fun _ _ => rfl)))))))))
      (pss_one (ps_ret (pe_callB cr_sortedData (by rfl) B.sorted (by decide +kernel) (pa_cons
        (pe_lc (own := [("lot", 8)]) (g := gName 8) (tt := tYes) (by rfl) scPieces.nd (pi_tup (pe_g S hr1 (by rfl) (pa_cons (pe_listVals rfl (pv 1) (by rfl) B.list) pa_nil)))
          (blkOk_by (own := [("lot", 8)]) (N := ["counts", "lots", "one", "other", "many", "least", "most", "place", "lot"]) (sc := defScope sPieces) (by decide +kernel))
          (fun _ _ _ _ _ => pg_name (i := 8) scPieces.nd rfl (.inr rfl)) (fun _ _ _ _ _ => pts_nil)
          (fun _ _ _ _ _ => pe_g S hr1 (by rfl) (pa_cons (pe_lock (pe_lc (own := [("place", 7)]) (g := gName 7) (by rfl) scPieces.nd (pi_keys (pv 1))
            (blkOk_by (own := [("place", 7)]) (N := ["counts", "lots", "one", "other", "many", "least", "most", "place", "lot"]) (sc := relS scLot (defScope sPieces)) (by decide +kernel))
            (fun _ _ _ _ _ => pg_name (i := 7) scPieces.nd rfl (.inl rfl)) (fun _ _ _ _ _ => pts_one (pt_cmpR op_eq (pe_dget hu (pv 1) (pv 7) (fun _ _ => rfl)) (pv 8) (nomark _))) (fun _ _ _ _ _ => pv 7))) pa_nil))) pa_nil))))), ?_⟩
    refine ⟨_, rfl, p, dx, _, rfl, h1, p, s, E, rfl, c, hE, fun v ps H1 s1 hv hnd hm hl => ⟨v, rfl, ⟨_, hv⟩, fun D nD => ?_⟩⟩
    have hpl : ∀ x, x ∈ ps ↔ IsPlace s E x := hm
    refine dc_it (walk_tup (K := K) (a := v) (xs := ps.map V.str)) (fun i H' => Same H1 H' ∧ H' D = some (.dK (labK (ps.take i) (fun x => x)))) ⟨same_upd nD, upd_same⟩ (fun i H' _ h => Same.tup' h.1 hv) ?_ ?_
    · rintro i x H' _ hi ⟨sH, hD⟩ ⟨rfl, hx⟩
      obtain ⟨y, hy, rfl⟩ := str_at hx
      refine ⟨rfl, _, rfl, _, rfl, _, Sum.inr y, rfl, hD, ?_, fun b o hb => ?_, ?_⟩
      · rw [labK_len]
        rw [List.length_take, sizeLine_eq]; omega
      · rw [upd_ne (ne_of_none hb nD)]
        exact sH _ _ hb
      · rw [upd_same]
        exact congrArg (fun l => some (HO.dK l)) (labK_put (lab := fun x => x) hnd hy)
    rintro H2 ⟨s2, hD2⟩
    rw [List.take_of_length_le (by rw [List.length_map]; exact Nat.le_refl _)] at hD2
    -- for one, other, many in counts.steps
    refine ⟨_, rfl, p, dx, _, rfl, s2 _ _ (s1 _ _ h1), p, s, E, rfl, c.same (s1.trans s2), fun st2 ts hst2 T => ?_⟩
    obtain ⟨a2, xs2, rfl, hS2, hA2⟩ := dp_tup hst2
    have hmem : ∀ t ∈ ts, t.1 ∈ ps ∧ t.2.1 ∈ ps := fun t ht => ⟨(hm _).2 (.inr ⟨_, (T.ct t ht).2, .inl rfl⟩), (hm _).2 (.inr ⟨_, (T.ct t ht).2, .inr rfl⟩)⟩
    refine ⟨a2, rfl, ⟨_, hS2⟩, L2.for_tup (K := K) (a := a2) (xs := xs2) (fun i σ H' => Same H2 H' ∧ ∃ d lab, H' d = some (.dK (labK ps lab)) ∧ LabOk ps E (ts.take i) lab ∧ ∃ x2 x3 x4 x5 x6, σ = [some (.ref p), some (.ref d), x2, x3, x4, x5, x6, none, none])
      ⟨Same.refl _, D, fun x => x, hD2, ⟨fun x hx => ⟨hx, Reach.refl⟩, fun t ht => by simp at ht⟩, none, none, none, none, none, rfl⟩ (fun i σ H' _ h => Same.tup' h.1 hS2) ?_ ?_⟩
    · rintro i x σ H' hx ⟨sH, d, lab, hd, hL, x2, x3, x4, x5, x6, rfl⟩
      obtain ⟨t, b, hti, ht, rfl, hb⟩ := tri_at hA2 hx
      obtain ⟨m1, m2⟩ := hmem t ht
      refine ⟨b, _, rfl, Same.tup' sH hb, rfl, _, _, rfl, _, _, rfl, _, _, rfl, rfl, ?_⟩
      -- least, most = sorted([lots[one], lots[other]])
      refine ⟨_, rfl, _, rfl, d, _, rfl, dget_lab (.inl hd) m1, _, rfl, _, rfl, d, _, rfl, dget_lab (.inl hd) m2, (by show 2 ≤ sizeLine; decide), fun l2 nl2 => ?_⟩
      refine ⟨l2, [lab t.1, lab t.2.1], rfl, SqL.of upd_same, (by show 2 < 64; decide), fun ys p3 pm _ np3 => ?_⟩
      obtain ⟨l, m, rfl, elm⟩ := perm_two pm
      have sa := same_upd (o := .lst [.str (lab t.1), .str (lab t.2.1)]) nl2
      have sb := same_upd (o := .lst ([l, m].map V.str)) np3
      refine ⟨p3, _, rfl, SqL.of upd_same, rfl, _, _, rfl, _, _, rfl, rfl, ?_⟩
      -- lots = {..}
      have hd3 := sb _ _ (sa _ _ hd)
      refine ⟨d, .dK (labK ps lab), hd3, trivial, fun od => ⟨_, rfl, d, od, rfl, .inl ⟨labK ps lab, upd_same, fun D2 nD2 => ?_⟩⟩⟩
      refine dc_it walk_keys (fun j H'' => Same (upd (upd (upd H' l2 (.lst [.str (lab t.1), .str (lab t.2.1)])) p3 (.lst ([l, m].map V.str))) d (.frz od (.dK (labK ps lab)))) H'' ∧ H'' D2 = some (.dK (labK (ps.take j) (fun x => if lab x = m then l else lab x)))) ⟨same_upd nD2, upd_same⟩ (fun j H'' _ h => h.1 _ _ upd_same) ?_ ?_
      · rintro j y _ H'' hj ⟨sJ, hJ⟩ ⟨rfl, k, v', hk, rfl⟩
        obtain ⟨z, hz, rfl, rfl⟩ := labK_at hk
        have hzp := List.mem_of_getElem? hz
        have hdl : Rd H'' d (.dK (labK ps lab)) := .inr ⟨od, sJ _ _ upd_same⟩
        refine ⟨rfl, _, rfl, _, rfl, _, rfl, d, _, rfl, dget_lab hdl hzp, _, rfl, rfl, _, rfl, ?_⟩
        have fin : ∀ v2, v2 = V.str (if lab z = m then l else lab z) → ∃ kvs k, (V.str z : V) = kV k ∧ H'' D2 = some (.dK kvs) ∧ kvs.length < sizeLine ∧ (Same (upd (upd (upd H' l2 (.lst [.str (lab t.1), .str (lab t.2.1)])) p3 (.lst ([l, m].map V.str))) d (.frz od (.dK (labK ps lab)))) (upd H'' D2 (.dK (putK kvs k v2))) ∧ (upd H'' D2 (.dK (putK kvs k v2))) D2 = some (.dK (labK (ps.take (j + 1)) (fun x => if lab x = m then l else lab x)))) := fun v2 e2 => by
          refine ⟨_, Sum.inr z, rfl, hJ, ?_, fun b o hb => ?_, ?_⟩
          · rw [labK_len]
            rw [List.length_take, sizeLine_eq]; omega
          · rw [upd_ne (ne_of_none hb nD2)]
            exact sJ _ _ hb
          · rw [upd_same, e2]
            exact congrArg (fun l => some (HO.dK l)) (labK_put (lab := fun x => if lab x = m then l else lab x) hnd hz)
        by_cases cm : lab z = m
        · rw [decide_eq_true (show V.str (lab z) = V.str m by rw [cm])]
          exact iteT ⟨_, rfl, fin _ (by rw [if_pos cm])⟩
        · rw [decide_eq_false (str_ne cm)]
          exact iteF ⟨_, rfl, _, rfl, d, _, rfl, dget_lab hdl hzp, fin _ (by rw [if_neg cm])⟩
      · rintro H'' ⟨sJ, hJ⟩
        rw [labK_len, List.take_of_length_le (Nat.le_refl _)] at hJ
        have nDd : D2 ≠ d := fun e => by
          rw [e, upd_same] at nD2
          cases nD2
        refine ⟨sJ _ _ upd_same, (sH.trans (sa.trans sb)).trans (same_unlock hd3 sJ), D2, (fun x => if lab x = m then l else lab x), ?_, ?_, _, _, _, _, _, rfl⟩
        · rw [upd_ne nDd]
          exact hJ
        · rw [take_snoc hti]
          exact lab_step hL (T.ct t ht).2 m1 m2 elm
    · rintro σ H3 ⟨s3, d, lab, hd, hL, x2, x3, x4, x5, x6, rfl⟩
      rw [List.take_of_length_le (by rw [dpAll_len hA2, List.length_map]; exact Nat.le_refl _)] at hL
      -- set_of(list(lots.values()))
      refine ⟨_, rfl, d, labK ps lab, rfl, .inl hd, fun l nl => ?_⟩
      have sl := same_upd (o := .lst ((labK ps lab).map (·.2))) nl
      have hvals : (labK ps lab).map (·.2) = (ps.map lab).map V.str := by
        unfold labK
        rw [List.map_map, List.map_map]
        rfl
      refine ⟨l, ps.map lab, rfl, ?_, by rw [List.length_map]; omega, fun v2 ls H4 s4 hv2 _ hls hlsl => ?_⟩
      · rw [← hvals]
        exact SqL.of upd_same
      refine ⟨v2, rfl, ⟨_, hv2⟩, fun D3 nD3 => ?_⟩
      have hd4 := s4 _ _ (sl _ _ hd)
      refine lc_tup (K := K) (a := v2) (xs := ls.map V.str) (fun i H' => Same H4 H' ∧ ∃ acc pcs, H' D3 = some (.lst acc) ∧ acc.length = i ∧ DpAll K H' acc (List.map dRow pcs) ∧ (∀ pc ∈ pcs, pc ≠ [] ∧ ∃ y ∈ ps, ∀ x, x ∈ pc ↔ x ∈ ps ∧ lab x = lab y) ∧ ∀ lot ∈ ls.take i, ∃ pc ∈ pcs, ∀ x, x ∈ pc ↔ x ∈ ps ∧ lab x = lot)
        ⟨same_upd nD3, [], [], upd_same, rfl, .nil, fun pc hpc => by simp at hpc, fun lot hlot => by simp at hlot⟩ (fun i H' _ h => Same.tup' h.1 hv2) ?_ ?_
      · rintro i x H' hx ⟨sH, acc, pcs, hacc, hal, hdp, hp1, hp2⟩
        obtain ⟨lot, hlot, rfl⟩ := str_at hx
        have hdH := sH _ _ hd4
        refine ⟨rfl, d, .dK (labK ps lab), hdH, trivial, fun od => ⟨_, rfl, d, od, rfl, .inl ⟨labK ps lab, upd_same, fun D5 nD5 => ?_⟩⟩⟩
        refine lc_it walk_keys (fun j H'' => Same (upd H' d (.frz od (.dK (labK ps lab)))) H'' ∧ H'' D5 = some (.lst (((ps.take j).filter fun x => decide (lab x = lot)).map V.str))) ⟨same_upd nD5, upd_same⟩ (fun j H'' _ h => h.1 _ _ upd_same) ?_ ?_
        · rintro j y _ H'' hj ⟨sJ, hJ⟩ ⟨rfl, k, v', hk, rfl⟩
          obtain ⟨z, hz, rfl, rfl⟩ := labK_at hk
          have hzp := List.mem_of_getElem? hz
          have hdl : Rd H'' d (.dK (labK ps lab)) := .inr ⟨od, sJ _ _ upd_same⟩
          refine ⟨rfl, _, rfl, _, rfl, d, _, rfl, dget_lab hdl hzp, _, rfl, rfl, _, rfl, ?_⟩
          by_cases cm : lab z = lot
          · rw [decide_eq_true (show V.str (lab z) = V.str lot by rw [cm])]
            refine iteT ⟨_, rfl, _, hJ, ?_, fun b o hb => ?_, ?_⟩
            · rw [List.length_map]
              have z1 := List.length_filter_le (fun x => decide (lab x = lot)) (ps.take j)
              rw [List.length_take] at z1
              rw [sizeLine_eq]; omega
            · rw [upd_ne (ne_of_none hb nD5)]
              exact sJ _ _ hb
            · rw [upd_same, take_snoc hz, List.filter_append, List.map_append, show ([z].filter fun x => decide (lab x = lot)) = [z] by simp [cm]]
              rfl
          · rw [decide_eq_false (str_ne cm)]
            refine iteF ⟨sJ, ?_⟩
            rw [hJ, take_snoc hz, List.filter_append, List.map_append]
            simp [cm]
        · rintro H'' ⟨sJ, hJ⟩
          rw [labK_len, List.take_of_length_le (Nat.le_refl _)] at hJ
          have nDd : D5 ≠ d := fun e => by
            rw [e, upd_same] at nD5
            cases nD5
          have s5 := same_unlock hdH sJ
          have hfl : (ps.filter fun x => decide (lab x = lot)).length ≤ ps.length := List.length_filter_le _ _
          refine ⟨sJ _ _ upd_same, D5, ps.filter fun x => decide (lab x = lot), rfl, SqL.of (by rw [upd_ne nDd]; exact hJ), by omega, fun v6 pc H6 s6 hv6 _ hpm hpl6 => ?_⟩
          have hacc6 := s6 _ _ (s5 _ _ hacc)
          have hpc : ∀ x, x ∈ pc ↔ x ∈ ps ∧ lab x = lot := fun x => by
            rw [hpm x, List.mem_filter, decide_eq_true_eq]
          obtain ⟨y, hy, ey⟩ := List.mem_map.mp ((hls lot).1 (List.mem_of_getElem? hlot))
          refine ⟨acc, hacc6, ?_, fun b o hb => ?_, acc ++ [.ref v6], pcs ++ [pc], upd_same, by rw [List.length_append, hal]; rfl, ?_, fun pc' hpc' => ?_, fun lot' hlot' => ?_⟩
          · have hlt := (List.getElem?_eq_some_iff.mp hlot).1
            rw [List.length_map] at hlsl
            rw [hal, sizeLine_eq]; omega
          · rw [upd_ne (ne_of_none hb nD3)]
            exact s6 _ _ (s5 _ _ (sH _ _ hb))
          · rw [List.map_append]
            have fx : Fix _ (upd _ D3 (.lst (acc ++ [.ref v6]))) := fix_upd hacc6
            have nl : noLs (List.map dRow pcs) = true := noLs_all fun d hd => by
              obtain ⟨x, _, rfl⟩ := List.mem_map.mp hd
              exact noL_row x
            exact dpAll_app (dpAll_fix fx _ _ nl (dpAll_same (s5.trans s6) _ _ hdp)) (.cons (dp_fix fx _ _ (noL_row _) (row_dp hv6)) .nil)
          · rcases List.mem_append.mp hpc' with z | z
            · exact hp1 pc' z
            · rw [List.mem_singleton.mp z]
              refine ⟨fun e0 => ?_, y, hy, fun x => by rw [ey]; exact hpc x⟩
              have : y ∈ pc := (hpc y).2 ⟨hy, ey⟩
              rw [e0] at this
              simp at this
          · rw [take_snoc hlot] at hlot'
            rcases List.mem_append.mp hlot' with z | z
            · obtain ⟨pc', h1', h2'⟩ := hp2 lot' z
              exact ⟨pc', List.mem_append.mpr (.inl h1'), h2'⟩
            · rw [List.mem_singleton.mp z]
              exact ⟨pc, List.mem_append.mpr (.inr (List.mem_singleton.mpr rfl)), hpc⟩
      · rintro H' ⟨sH, acc, pcs, hacc, hal, hdp, hp1, hp2⟩
        rw [List.length_map, List.take_of_length_le (Nat.le_refl _)] at hp2
        obtain ⟨bs, e1, e2, e3⟩ := map_dpAll hdp
        have hrow : ∀ d ∈ bs.map (·.2), ∃ pc ∈ pcs, d = dRow pc := fun d hd => by
          rw [e2] at hd
          obtain ⟨pc, hpc, rfl⟩ := List.mem_map.mp hd
          exact ⟨pc, hpc, rfl⟩
        refine ⟨D3, bs, rfl, by rw [e1]; exact SqL.of hacc, e3, fun d1 hd1 d2 hd2 => ?_, .inl fun d1 hd1 => ?_, fun b hb => ?_, fun cs pz pm _ npz => ?_⟩
        · obtain ⟨p1, _, rfl⟩ := hrow d1 hd1
          obtain ⟨p2, _, rfl⟩ := hrow d2 hd2
          exact alike_row p1 p2
        · obtain ⟨p1, hp, rfl⟩ := hrow d1 hd1
          cases p1 with
          | nil => exact absurd rfl (hp1 _ hp).1
          | cons z r => exact ⟨_, _, rfl⟩
        · obtain ⟨p1, hp, e⟩ := hrow b.2 (List.mem_map.mpr ⟨b, hb, rfl⟩)
          rw [e]
          have z1 := depth_row p1
          have z2 := hr.un
          show (A.deeper (envOfC "pieces" (defScope sPieces) sh.heap.objs.size f cdv)).units + 2 + _ < cLine
          omega
        · have pm2 := pm.map (fun b : V × PyData => b.2)
          rw [e2] at pm2
          obtain ⟨fs, g1, g2⟩ := perm_rows pm2
          have sz := same_upd (o := .lst (cs.map (fun x => x.1))) npz
          have hsp : s ∈ ps := (hm s).2 (.inl rfl)
          refine q pz _ fs _ ((((s1.trans s2).trans s3).trans (sl.trans s4)).trans (sH.trans sz)) upd_same ?_ ?_ ⟨?_, fun pc hpc hs x => ?_⟩
          · have z1 := congrArg List.length e1
            have z2 := pm.length_eq
            rw [List.length_map] at z1 hlsl
            rw [List.length_map, z2, z1, hal, List.length_map]
            omega
          · rw [← g1]
            exact dpAll_same sz _ _ (dpAll_map (fun b : V × PyData => b.1) (fun b => b.2) cs fun b hb => e3 b (pm.mem_iff.mp hb))
          · obtain ⟨pc, h1', h2'⟩ := hp2 (lab s) ((hls _).2 (List.mem_map.mpr ⟨s, hsp, rfl⟩))
            exact ⟨pc, g2.mem_iff.mpr h1', (h2' s).2 ⟨hsp, rfl⟩⟩
          · obtain ⟨_, y, hy, hpy⟩ := hp1 pc (g2.mem_iff.mp hpc)
            obtain ⟨_, es⟩ := (hpy s).1 hs
            rw [hpy x, ← es]
            constructor
            · rintro ⟨a1, a2⟩
              exact ⟨(hm x).1 a1, (lab_end T hL a1 hsp).1 a2⟩
            · rintro ⟨a1, a2⟩
              exact ⟨(hm x).2 a1, (lab_end T hL ((hm x).2 a1) hsp).2 a2⟩
end
end K76
set_option Elab.async false
set_option linter.all false
set_option maxRecDepth 100000
/-! The walk, eighth part: why_none, is_had, need, end_of, turned_counts, gone. -/
namespace K76
open PySem PySem.Spec PyProof.Rows L2
theorem inV_strs (x : Str) : ∀ xs : List Str, inV (.str x) (xs.map V.str) = decide (x ∈ xs)
  | [] => by simp [inV]
  | y :: xs => by
    have ih := inV_strs x xs
    unfold inV at ih ⊢
    rw [List.map_cons, List.any_cons, ih]
    show ((y == x) || decide (x ∈ xs)) = decide (x ∈ y :: xs)
    by_cases e : y = x
    · subst e
      simp
    · have e' : (y == x) = false := by simpa using e
      rw [e', Bool.false_or]
      have : ¬ x = y := fun z => e z.symm
      simp [List.mem_cons, this]
theorem flat_strs' (xs : List Str) : (xs.map V.str).all flatV = true := by
  rw [List.all_map]
  exact List.all_eq_true.mpr fun _ _ => rfl
def badSur (s : Str) (m : Str × Int) : Prop := m.2 < -1 ∨ m.2 > (if m.1 = s then 1 else 0)
theorem had_iff {s : Str} {E : List (Str × Str)} {ms : List (Str × Int)} (hS : SurOk ms E) (h1 : ∀ m ∈ ms, ¬ badSur s m) (h2 : ∀ x, IsPlace s E x → Reach E s x) : Had s E := by
  have hs : ∀ x, sur E x ≠ 0 → ¬ badSur s (x, sur E x) := fun x hx => h1 _ ((hS _).2 ⟨rfl, hx⟩)
  refine ⟨fun v => ?_, fun v => ?_, fun e he => h2 _ (.inr ⟨e, he, .inl rfl⟩)⟩
  · by_cases h0 : sur E v = 0
    · unfold sur at h0
      have := one_le (s = v)
      omega
    · have z := hs v h0
      unfold badSur sur at z
      simp only [not_or] at z
      have z2 := z.2
      by_cases e : v = s
      · rw [if_pos e] at z2
        have : one (s = v) = 1 := by rw [e]; exact one_self s
        omega
      · rw [if_neg e] at z2
        omega
  · by_cases h0 : sur E v = 0
    · unfold sur at h0
      omega
    · have z := hs v h0
      unfold badSur sur at z
      simp only [not_or] at z
      have z1 := z.1
      omega
theorem had_sur {s : Str} {E : List (Str × Str)} (h : Had s E) {m : Str × Int} (hm : m.2 = sur E m.1) : ¬ badSur s m := by
  unfold badSur
  have h1 := h.up m.1
  have h2 := h.dn m.1
  rw [hm]
  unfold sur
  by_cases e : m.1 = s
  · rw [if_pos e]
    have := one_le (s = m.1)
    omega
  · rw [if_neg e]
    have : one (s = m.1) = 0 := one_ne (fun z => e z.symm)
    omega
theorem had_reach {s : Str} {E : List (Str × Str)} (h : Had s E) {x : Str} (hx : IsPlace s E x) : Reach E s x := by
  rcases hx with rfl | ⟨e, he, z | z⟩
  · exact .refl
  · exact z ▸ h.con e he
  · have := h.con e he
    subst z
    exact this.trans (Reach.one he)
section
variable {P : Program} {w : World} {K : PySem.W.Frag} {mg : Str → Option Value} {base : Heap} {C : Addr}
def spWhy (K : PySem.W.Frag) (C : Addr) : Sp := fun vs H Q _ => ∃ p s E, vs = [.ref p] ∧ CAt K C H p s E ∧ E.length ≤ 30 ∧
  ∀ v H', Same H H' → ((v = .non ∧ Had s E) ∨ ((∃ a, v = .ref a) ∧ ¬ Had s E)) → Q v H'
theorem sur_at {K : PySem.W.Frag} {H : Hp} {xs : List V} {ms : List (Str × Int)} (hA : DpAll K H xs (ms.map dSur)) {i : Nat} {x : V} (hx : xs[i]? = some x) : ∃ m p, ms[i]? = some m ∧ m ∈ ms ∧ x = V.ref p ∧ SqT K H p [.str m.1, .int m.2] := by
  obtain ⟨d, e1, e2⟩ := dpAll_at hA hx
  rw [List.getElem?_map] at e1
  cases et : ms[i]? with
  | none => rw [et] at e1; cases e1
  | some t =>
    rw [et] at e1
    have e1' : dSur t = d := Option.some.inj e1
    subst e1'
    obtain ⟨p, ex, hp⟩ := dp_sur e2
    exact ⟨t, p, rfl, List.mem_of_getElem? et, ex, hp⟩
theorem row_at {K : PySem.W.Frag} {H : Hp} {xs : List V} {ms : List (List Str)} (hA : DpAll K H xs (ms.map dRow)) {i : Nat} {x : V} (hx : xs[i]? = some x) : ∃ m p, ms[i]? = some m ∧ m ∈ ms ∧ x = V.ref p ∧ SqT K H p (m.map V.str) := by
  obtain ⟨d, e1, e2⟩ := dpAll_at hA hx
  rw [List.getElem?_map] at e1
  cases et : ms[i]? with
  | none => rw [et] at e1; cases e1
  | some t =>
    rw [et] at e1
    have e1' : dRow t = d := Option.some.inj e1
    subst e1'
    obtain ⟨p, ex, hp⟩ := dp_row e2
    exact ⟨t, p, rfl, List.mem_of_getElem? et, ex, hp⟩
theorem take_all {α : Type} {xs : List α} {n : Nat} (h : xs.length ≤ n) : xs.take n = xs := List.take_of_length_le h
theorem mem_take_iff {α : Type} {xs : List α} {i : Nat} {x : α} (h : xs[i]? = some x) {p : α → Prop} (h1 : ∀ y ∈ xs.take i, p y) (h2 : p x) : ∀ y ∈ xs.take (i + 1), p y := fun y hy => by
  rw [take_snoc h] at hy
  rcases List.mem_append.mp hy with z | z
  · exact h1 y z
  · rw [List.mem_singleton.mp z]; exact h2
theorem ok_why {f fS fP pT fT pP fPl : Addr} {fd fdS fdP fdT fdPl : FuncData} {z1 z2 : Str} {t1 t2 : Tok} (F : Fun K "why_none" "why_none" sWhyNone f fd) (B : Bn mg) (mS : mg "SURPLUS" = some (.str z1 t1)) (mA : mg "APART" = some (.str z2 t2))
    (GS : Gd P w K mg base 4 "surplus" ["counts"] (spSurplus K C) fS fdS) (GP : Gd P w K mg base 4 "pieces" ["counts"] (spPieces K C) fP fdP)
    (GT : Gp P w K mg base 1 C "start" ["self"] (spStart K C) pT fT fdT) (PL : Gp P w K mg base 2 C "places" ["self"] (spPlaces K C) pP fPl fdPl) : FnOk P w K mg base CX0 5 f fd ["counts"] (spWhy K C) := by
  refine F.ok scWhyNone (fun vs H Q E h => ?_) (fun cdv A outer sh H vs Q E hr h => ?_)
  · obtain ⟨p, s, E, rfl, _⟩ := h
    rfl
  · obtain ⟨p, s, E, rfl, c, hE, q⟩ := h
    have hr2 : Room 2 _ := hr.mono (by decide)
    have hr3 : Room 3 _ := hr.mono (by decide)
    obtain ⟨dx, tb, st, os, is, h1⟩ := c.obj
    refine ⟨_, pss_cons (ps_for PassesOwn.never rfl (pi_tup (pe_g GS hr (by rfl) (pa_cons (pv 0) pa_nil))) (pg_tup rfl (pgs_cons (pg_name (i := 1) scWhyNone.nd rfl (.inl rfl)) (pgs_cons (pg_name (i := 2) scWhyNone.nd rfl (.inl rfl)) pgs_nil)))
        (pss_one (ps_if (PW.pt (pw_or (pt_cmpR op_lt (pv 2) (pe_un un_neg pe_int) (nomark _)) (pw_or1 (pt_cmpR op_gt (pv 2) (pe_callTy call_int1 (by rfl) B.int (by decide +kernel) (pa_cons (pe_cmpR op_eq (pv 1) (pe_gp (pv 0) GT hr2 rfl) (nomark _)) pa_nil)) (nomark _)))))
          (pss_one (ps_ret (pe_tup (pa_cons (pe_glob (v := .str z1) (by rfl) mS ⟨_, rfl⟩) (pa_cons (pv 1) pa_nil))))) pss_nil)))
      (pss_cons (ps_set (i := 3) scWhyNone.nd rfl (.inl rfl) (pe_ix ix_list (pe_lc (own := [("lot", 4)]) (g := gName 4) (tt := tTest (tOp (rIn K false) (tProp C (spStart K C) [] E0 (tVar 0)) (tVar 4))) (by rfl) scWhyNone.nd (pi_list (pe_g GP hr (by rfl) (pa_cons (pv 0) pa_nil)))
          (blkOk_by (own := [("lot", 4)]) (N := ["counts", "place", "more", "own", "lot"]) (sc := defScope sWhyNone) (by decide +kernel))
          (fun _ _ _ _ _ => pg_name (i := 4) scWhyNone.nd rfl (.inl rfl)) (fun _ _ _ _ _ => pts_one (pt_cmpR op_in_seq (pe_gp (pv 0) GT hr2 rfl) (pv 4) rfl)) (fun _ _ _ _ _ => pv 4)) pe_int (fun _ _ => rfl)))
      (pss_cons (ps_for PassesOwn.never rfl (pi_tup (pe_gp (pv 0) PL hr3 rfl)) (pg_name (i := 1) scWhyNone.nd rfl (.inl rfl))
        (pss_one (ps_if (pt_cmpR op_notIn_seq (pv 1) (pv 3) rfl) (pss_one (ps_ret (pe_tup (pa_cons (pe_glob (v := .str z2) (by rfl) mA ⟨_, rfl⟩) (pa_cons (pv 1) pa_nil))))) pss_nil)))
      (pss_one (ps_ret pe_non)))), ?_⟩
    -- for place, more in surplus(counts)
    refine ⟨_, rfl, p, s, E, rfl, c, hE, fun v ms H1 s1 hv _ hSu => ?_⟩
    obtain ⟨a, xs, rfl, hT, hA⟩ := dp_tup hv
    refine ⟨a, rfl, ⟨_, hT⟩, L2.for_tup (K := K) (a := a) (xs := xs) (fun i σ H' => Same H1 H' ∧ (∀ m ∈ ms.take i, ¬ badSur s m) ∧ ∃ x1 x2, σ = [some (.ref p), x1, x2, none, none]) ⟨Same.refl _, fun m hm => by simp at hm, none, none, rfl⟩ (fun i σ H' _ h => Same.tup' h.1 hT) ?_ ?_⟩
    · rintro i x σ H' hx ⟨sH, hb, x1, x2, rfl⟩
      obtain ⟨m, b, hmi, hm, rfl, hb'⟩ := sur_at hA hx
      have em : m.2 = sur E m.1 := ((hSu m).1 hm).1
      refine ⟨b, _, rfl, Same.tup' sH hb', rfl, _, _, rfl, _, _, rfl, rfl, ?_⟩
      have cH := c.same (s1.trans sH)
      have bad : badSur s m → ∀ Tp, H' Tp = none → Q (.ref Tp) (upd H' Tp (.tup [.str z1, .str m.1])) := fun hbad Tp nT =>
        q (.ref Tp) _ ((s1.trans sH).trans (same_upd nT)) (.inr ⟨⟨_, rfl⟩, fun had => had_sur had em hbad⟩)
      refine ⟨_, rfl, _, rfl, _, _, rfl, rfl, _, rfl, ?_⟩
      by_cases c1 : m.2 < -1
      · rw [decide_eq_true c1]
        exact iteT (iteT ⟨_, rfl, (by show 2 ≤ sizeLine; decide), fun Tp nT => bad (.inl c1) Tp nT⟩)
      · rw [decide_eq_false c1]
        refine iteF ⟨_, rfl, _, rfl, _, rfl, p, dx, _, rfl, s1.trans sH _ _ h1, p, s, E, rfl, cH, rfl, .inr ⟨_, rfl, _, _, rfl, rfl, _, rfl, ?_⟩⟩
        have ei : (if decide (V.str m.1 = V.str s) = true then (1 : Int) else 0) = if m.1 = s then 1 else 0 := by
          by_cases e : m.1 = s
          · rw [if_pos e, decide_eq_true (by rw [e]), if_pos rfl]
          · rw [if_neg e, decide_eq_false (str_ne e), if_neg (by decide)]
        rw [ei]
        by_cases c2 : m.2 > (if m.1 = s then 1 else 0)
        · rw [decide_eq_true c2]
          exact iteT ⟨_, rfl, (by show 2 ≤ sizeLine; decide), fun Tp nT => bad (.inr c2) Tp nT⟩
        · rw [decide_eq_false c2]
          refine iteF ⟨sH, mem_take_iff hmi hb ?_, _, _, rfl⟩
          rintro (z | z)
          · exact c1 z
          · exact c2 z
    · rintro σ H2 ⟨s2, hb, x1, x2, rfl⟩
      rw [take_all (by rw [dpAll_len hA, List.length_map]; exact Nat.le_refl _)] at hb
      -- own = [..][0]
      refine ⟨_, rfl, p, s, E, rfl, c.same (s1.trans s2), hE, fun l vs' pcs H3 s3 hl hvl hdp hpc => ⟨l, rfl, ⟨_, SqL.of hl⟩, fun D nD => ?_⟩⟩
      have s03 := (s1.trans s2).trans s3
      refine lc_list (K := K) (a := l) (xs := vs') (fun i H' => Same H3 H' ∧ ∃ acc os, H' D = some (.lst acc) ∧ acc.length ≤ i ∧ DpAll K H' acc (List.map dRow os) ∧ (∀ pc, pc ∈ os ↔ pc ∈ pcs.take i ∧ s ∈ pc)) ⟨same_upd nD, [], [], upd_same, Nat.le_refl _, .nil, fun pc => by simp⟩ (fun i H' _ h => h.1.seq (SqL.of hl)) ?_ ?_
      · rintro i x H' hx ⟨sH, acc, ws, hacc, hal, hdp', hmem⟩
        obtain ⟨pc, b, hpi, hpm, rfl, hb'⟩ := row_at hdp hx
        have cH := c.same (s03.trans sH)
        refine ⟨rfl, _, rfl, p, dx, _, rfl, s03.trans sH _ _ h1, p, s, E, rfl, cH, _, rfl, b, _, rfl, .inr (Same.tup' sH hb'), rfl, flat_strs' _, _, rfl, ?_⟩
        rw [inV_strs]
        by_cases hs : s ∈ pc
        · rw [decide_eq_true hs]
          refine iteT ⟨_, rfl, acc, hacc, ?_, fun b' o hb'' => ?_, acc ++ [.ref b], ws ++ [pc], upd_same, by rw [List.length_append]; exact Nat.succ_le_succ hal, ?_, fun pc' => ?_⟩
          · have hlt := (List.getElem?_eq_some_iff.mp hx).1
            rw [sizeLine_eq]; omega
          · rw [upd_ne (ne_of_none hb'' nD)]
            exact sH _ _ hb''
          · rw [List.map_append]
            have fx : Fix _ (upd _ D (.lst (acc ++ [.ref b]))) := fix_upd hacc
            have nl : noLs (List.map dRow ws) = true := noLs_all fun d hd => by
              obtain ⟨x, _, rfl⟩ := List.mem_map.mp hd
              exact noL_row x
            exact dpAll_app (dpAll_fix fx _ _ nl hdp') (.cons (dp_fix fx _ _ (noL_row _) (row_dp (Same.tup' sH hb'))) .nil)
          · rw [List.mem_append, hmem, take_snoc hpi, List.mem_append]
            constructor
            · rintro (⟨z1, z2⟩ | z)
              · exact ⟨.inl z1, z2⟩
              · rw [List.mem_singleton.mp z]; exact ⟨.inr (List.mem_singleton.mpr rfl), hs⟩
            · rintro ⟨z1 | z1, z2⟩
              · exact .inl ⟨z1, z2⟩
              · exact .inr z1
        · rw [decide_eq_false hs]
          refine iteF ⟨sH, acc, ws, hacc, by omega, hdp', fun pc' => ?_⟩
          rw [hmem, take_snoc hpi, List.mem_append]
          constructor
          · rintro ⟨z1, z2⟩
            exact ⟨.inl z1, z2⟩
          · rintro ⟨z1 | z1, z2⟩
            · exact ⟨z1, z2⟩
            · rw [List.mem_singleton.mp z1] at z2
              exact absurd z2 hs
      · rintro H4 ⟨s4, acc, ws, hacc, hal, hdp', hmem⟩
        rw [take_all (by rw [dpAll_len hdp, List.length_map]; exact Nat.le_refl _)] at hmem
        obtain ⟨pc0, hpc0, hs0⟩ := hpc.1
        have hne : ws ≠ [] := fun e => by
          have := (hmem pc0).2 ⟨hpc0, hs0⟩
          rw [e] at this
          simp at this
        obtain ⟨pc, wr, rfl⟩ : ∃ pc wr, ws = pc :: wr := by
          cases ws with
          | nil => exact absurd rfl hne
          | cons a b => exact ⟨a, b, rfl⟩
        obtain ⟨hpcm, hspc⟩ := (hmem pc).1 List.mem_cons_self
        have hpcx := hpc.2 pc hpcm hspc
        obtain ⟨ov, acc', rfl, hov, _⟩ : ∃ ov acc', acc = ov :: acc' ∧ Dp K H4 ov (dRow pc) ∧ True := by
          cases hdp' with
          | cons z _ => exact ⟨_, _, rfl, z, trivial⟩
        obtain ⟨b, rfl, hb'⟩ := dp_row hov
        refine ⟨D, _, _, _, rfl, rfl, SqL.of hacc, atI_nat (j := 0) rfl, ?_⟩
        -- for place in counts.places
        have s04 := s03.trans s4
        refine ⟨_, rfl, p, dx, _, rfl, s04 _ _ h1, p, s, E, rfl, c.same s04, hE, fun v ps H5 s5 hv5 _ hm5 _ => ⟨v, rfl, ⟨_, hv5⟩, L2.for_tup (K := K) (a := v) (xs := ps.map V.str) (fun i σ H' => H5 = H' ∧ (∀ x ∈ ps.take i, x ∈ pc) ∧ ∃ x1 x2, σ = [some (.ref p), x1, x2, some (.ref b), none]) ⟨rfl, fun x hx => by simp at hx, _, _, rfl⟩ (fun i σ H' _ h => by rw [← h.1]; exact hv5) ?_ ?_⟩⟩
        · rintro i x σ H' hx ⟨rfl, hin, x1, x2, rfl⟩
          obtain ⟨y, hy, rfl⟩ := str_at hx
          refine ⟨_, rfl, _, rfl, b, _, rfl, .inr (Same.tup' s5 hb'), rfl, flat_strs' _, _, rfl, ?_⟩
          rw [inV_strs]
          by_cases hyp : y ∈ pc
          · rw [decide_eq_true hyp]
            exact iteF ⟨rfl, mem_take_iff hy hin hyp, _, _, rfl⟩
          · rw [decide_eq_false hyp]
            refine iteT ⟨_, rfl, (by show 2 ≤ sizeLine; decide), fun Tp nT => q (.ref Tp) _ ((s04.trans s5).trans (same_upd nT)) (.inr ⟨⟨_, rfl⟩, fun had => hyp ?_⟩)⟩
            have hpl := (hm5 y).1 (List.mem_of_getElem? hy)
            exact (hpcx y).2 ⟨hpl, had_reach had hpl⟩
        · rintro σ H6 ⟨rfl, hin, x1, x2, rfl⟩
          rw [take_all (by rw [List.length_map]; exact Nat.le_refl _)] at hin
          exact q .non _ (s04.trans s5) (.inl ⟨rfl, had_iff hSu hb fun x hx => ((hpcx x).1 (hin x ((hm5 x).2 hx))).2⟩)
end
end K76
set_option Elab.async false
set_option linter.all false
set_option maxRecDepth 100000
/-! The walk, ninth part: is_had, need, end_of, turned_counts, gone, open_steps, sure_beginning, sure_end. -/
namespace K76
open PySem PySem.Spec PyProof.Rows L2
/-- counts - counts by C's own way -/
structure Gs (P : Program) (w : World) (K : PySem.W.Frag) (mg : Str → Option Value) (base : Heap) (k : Nat) (C : Addr) (f : Addr) (fd : FuncData) : Prop where
  ok : FnOk P w K mg base CX0 k f fd ["self", "other"] (spSub K C)
  hm : PySem.W.findIn K (.ref C) (PySem.dunder Operator.Sub.info.2) = some (some (.ref f))
  hf : PySem.W.isFn K (.ref f) = true
  hs : PySem.W.selfFirst K C = true
  bd : Binds K fd ["self", "other"] []
theorem op_gs {X : Cx} {k : Nat} {C f : Addr} {fd : FuncData} (G : Gs X.prog X.w X.K X.mg X.base k C f fd) (hr : Room k X.A) : OpR X (binaryOp .Sub) (rOwn C (spSub X.K C) [] E0) := op_own G.hm G.hf G.hs G.ok hr G.bd .nil pass0
def flipT (t : Tri) : Tri := (t.2.1, t.1, t.2.2)
theorem exp_flip : ∀ ts : List Tri, exp (ts.map flipT) = (exp ts).map sw
  | [] => rfl
  | t :: ts => by
    rw [List.map_cons, exp_cons, exp_cons, exp_flip ts, List.map_append, List.map_replicate]
    rfl
theorem EOk.sw {E : List (Str × Str)} (h : EOk E) : EOk (E.map sw) := ⟨fun e he => by
  obtain ⟨x, hx, rfl⟩ := List.mem_map.mp he
  exact fun z => h.un x hx z.symm, by rw [List.length_map]; exact h.le⟩
theorem fl_m {s : Str} {tb os is : Addr} {st : V} {m : Str} (h1 : ¬ m = "own_start" := by decide +kernel) (h2 : ¬ m = "own_table" := by decide +kernel) (h3 : ¬ m = "own_steps" := by decide +kernel) (h4 : ¬ m = "own_outs" := by decide +kernel) (h5 : ¬ m = "own_ins" := by decide +kernel) :
    (flds s tb st os is).lookup m = none := flds_no h1 h2 h3 h4 h5
section
variable {P : Program} {w : World} {K : PySem.W.Frag} {mg : Str → Option Value} {base : Heap} {C : Addr}
/-! ### is_had, need -/
def spIsHad (K : PySem.W.Frag) (C : Addr) : Sp := fun vs H Q _ => ∃ p s E, vs = [.ref p] ∧ CAt K C H p s E ∧ E.length ≤ 30 ∧ ∀ b H', Same H H' → (b = true ↔ Had s E) → Q (.bl b) H'
theorem ok_isHad {f fW : Addr} {fd fdW : FuncData} (F : Fun K "is_had" "is_had" sIsHad f fd) (GW : Gd P w K mg base 5 "why_none" ["counts"] (spWhy K C) fW fdW) : FnOk P w K mg base CX0 6 f fd ["counts"] (spIsHad K C) := by
  refine F.ok scIsHad (fun vs H Q E h => ?_) (fun cdv A outer sh H vs Q E hr h => ?_)
  · obtain ⟨p, s, E, rfl, _⟩ := h
    rfl
  · obtain ⟨p, s, E, rfl, c, hE, q⟩ := h
    refine ⟨_, pss_one (ps_ret (pe_cmpR op_isN (pe_g GW hr (by rfl) (pa_cons (pv 0) pa_nil)) pe_non (nomark _))), ?_⟩
    refine ⟨_, rfl, p, s, E, rfl, c, hE, fun v H' s1 hv => ⟨rfl, ?_⟩⟩
    rcases hv with ⟨rfl, had⟩ | ⟨⟨a, rfl⟩, had⟩
    · exact q _ H' s1 ⟨fun _ => had, fun _ => decide_eq_true rfl⟩
    · exact q _ H' s1 ⟨fun z => by simp at z, fun z => absurd z had⟩
def spNeed (K : PySem.W.Frag) (C : Addr) : Sp := fun vs H Q _ => ∃ p s E, vs = [.ref p] ∧ CAt K C H p s E ∧ E.length ≤ 30 ∧ Had s E ∧ ∀ H', Same H H' → Q .non H'
theorem ok_need {f fI : Addr} {fd fdI : FuncData} (F : Fun K "need" "need" sNeed f fd) (GI : Gd P w K mg base 6 "is_had" ["counts"] (spIsHad K C) fI fdI) : FnOk P w K mg base CX0 7 f fd ["counts"] (spNeed K C) := by
  refine F.ok scNeed (fun vs H Q E h => ?_) (fun cdv A outer sh H vs Q E hr h => ?_)
  · obtain ⟨p, s, E, rfl, _⟩ := h
    rfl
  · obtain ⟨p, s, E, rfl, c, hE, had, q⟩ := h
    refine ⟨_, pss_one (ps_if (pt_not (pt_val (pe_g GI hr (by rfl) (pa_cons (pv 0) pa_nil)))) (pss_one ps_never) pss_nil), ?_⟩
    refine ⟨_, rfl, p, s, E, rfl, c, hE, fun b H' s1 hb => ⟨b, rfl, ?_⟩⟩
    rw [hb.2 had]
    exact iteF (q H' s1)
/-! ### end_of -/
theorem bal_sur {s t : Str} {E : List (Str × Str)} (b : Bal s t E) (x : Str) : sur E x = (one (s = x) : Int) - (one (t = x) : Int) := by
  have := b x
  unfold sur
  omega
theorem ends_eq {s t : Str} {E : List (Str × Str)} {ms : List (Str × Int)} (b : Bal s t E) (h : SurOk ms E) :
    (∀ x ∈ (ms.filter fun m => decide (m.2 < 0)).map (·.1), x = t) ∧ ((ms.filter fun m => decide (m.2 < 0)).map (·.1) = [] → s = t) := by
  refine ⟨fun x hx => ?_, fun e => ?_⟩
  · obtain ⟨m, hm, rfl⟩ := List.mem_map.mp hx
    obtain ⟨h1, h2⟩ := List.mem_filter.mp hm
    have h2 : m.2 < 0 := of_decide_eq_true h2
    have h3 := ((h m).1 h1).1
    rw [bal_sur b] at h3
    by_cases z : t = m.1
    · exact z.symm
    · rw [one_ne z] at h3
      omega
  · by_cases z : s = t
    · exact z
    · exfalso
      have h1 : (t, (-1 : Int)) ∈ ms := by
        refine (h (t, -1)).2 ⟨?_, (by show (-1 : Int) ≠ 0; decide)⟩
        rw [bal_sur b, one_ne z, one_self]
        rfl
      have h2 : t ∈ (ms.filter fun m => decide (m.2 < 0)).map (·.1) := List.mem_map.mpr ⟨_, List.mem_filter.mpr ⟨h1, decide_eq_true (by show (-1 : Int) < 0; decide)⟩, rfl⟩
      rw [e] at h2
      simp at h2
def spEndOf (K : PySem.W.Frag) (C : Addr) : Sp := fun vs H Q _ => ∃ p s E t, vs = [.ref p] ∧ CAt K C H p s E ∧ E.length ≤ 30 ∧ Bal s t E ∧ Conn s E ∧ ∀ H', Same H H' → Q (.str t) H'
theorem ok_endOf {f fN fS pT fT : Addr} {fd fdN fdS fdT : FuncData} (F : Fun K "end_of" "end_of" sEndOf f fd) (B : Bn mg) (GN : Gd P w K mg base 7 "need" ["counts"] (spNeed K C) fN fdN) (GS : Gd P w K mg base 4 "surplus" ["counts"] (spSurplus K C) fS fdS)
    (GT : Gp P w K mg base 1 C "start" ["self"] (spStart K C) pT fT fdT) : FnOk P w K mg base CX0 8 f fd ["counts"] (spEndOf K C) := by
  refine F.ok scEndOf (fun vs H Q E h => ?_) (fun cdv A outer sh H vs Q E hr h => ?_)
  · obtain ⟨p, s, E, t, rfl, _⟩ := h
    rfl
  · obtain ⟨p, s, E, t, rfl, c, hE, bal, con, q⟩ := h
    have hr2 : Room 2 _ := hr.mono (by decide)
    have hr4 : Room 4 _ := hr.mono (by decide)
    obtain ⟨dx, tb, st, os, is, h1⟩ := c.obj
    refine ⟨_, pss_cons (ps_expr (pe_g GN hr (by rfl) (pa_cons (pv 0) pa_nil)))
      (pss_cons (ps_setLc (i := 1) (own := [("place", 2), ("more", 3)]) (g := gTup K 2 (gCons (gName 2) (gCons (gName 3) gNil))) (by rfl) scEndOf.nd rfl rfl (sw_true rfl rfl rfl (by decide +kernel)) (pi_tup (pe_g GS hr4 (by rfl) (pa_cons (pv 0) pa_nil)))
        (blkOk_by (own := [("place", 2), ("more", 3)]) (N := ["counts", "ends", "place", "more"]) (sc := defScope sEndOf) (by decide +kernel))
        (fun _ _ _ _ _ => pg_tup rfl (pgs_cons (pg_name (i := 2) scEndOf.nd rfl (.inl rfl)) (pgs_cons (pg_name (i := 3) scEndOf.nd rfl (.inl rfl)) pgs_nil)))
        (fun _ _ _ _ _ => pts_one (pt_cmpR op_lt (pv 3) pe_int (nomark _))) (fun _ _ _ _ _ => pv 2))
      (pss_one (ps_ret (pe_ifExp (pt_cmpR op_gt (pe_callB call_len_seq (by rfl) B.len PySem.boot_len (pa_cons (pv 1) pa_nil)) pe_int (nomark _)) (pe_ix ix_list (pv 1) pe_int (fun _ _ => rfl)) (pe_gp (pv 0) GT hr2 rfl))))), ?_⟩
    refine ⟨_, rfl, p, s, E, rfl, c, hE, had_of_bal bal con, fun H1 s1 => ?_⟩
    refine ⟨_, rfl, p, s, E, rfl, c.same s1, hE, fun v ms H2 s2 hv hml hSu => ?_⟩
    obtain ⟨a, xs, rfl, hT, hA⟩ := dp_tup hv
    have hxl : xs.length = ms.length := by rw [dpAll_len hA, List.length_map]
    refine ⟨a, rfl, ⟨_, hT⟩, fun D nD => ?_⟩
    refine lc_tup (K := K) (a := a) (xs := xs) (fun i H' => Same H2 H' ∧ ((ms.take i).filter fun m => decide (m.2 < 0)).length ≤ i ∧ H' D = some (.lst ((((ms.take i).filter fun m => decide (m.2 < 0)).map (·.1)).map V.str))) ⟨same_upd nD, Nat.le_refl _, upd_same⟩ (fun i H' _ h => Same.tup' h.1 hT) ?_ ?_
    · rintro i x H' hx ⟨sH, hl, hD⟩
      obtain ⟨m, b, hmi, hm, rfl, hb⟩ := sur_at hA hx
      refine ⟨b, _, rfl, Same.tup' sH hb, rfl, _, _, rfl, _, _, rfl, rfl, rfl, _, rfl, _, _, rfl, rfl, _, rfl, ?_⟩
      by_cases hn : m.2 < 0
      · rw [decide_eq_true hn]
        have ef : (ms.take (i + 1)).filter (fun m => decide (m.2 < 0)) = (ms.take i).filter (fun m => decide (m.2 < 0)) ++ [m] := by
          rw [take_snoc hmi, List.filter_append]
          congr 1
          simp [hn]
        refine iteT ⟨_, rfl, _, hD, ?_, fun b' o hb' => ?_, ?_, ?_⟩
        · rw [List.length_map, List.length_map]
          have hlt := (List.getElem?_eq_some_iff.mp hmi).1
          rw [sizeLine_eq]; omega
        · rw [upd_ne (ne_of_none hb' nD)]
          exact sH _ _ hb'
        · rw [ef, List.length_append]
          exact Nat.succ_le_succ hl
        · rw [upd_same, ef, List.map_append, List.map_append]
          rfl
      · rw [decide_eq_false hn]
        have ef : (ms.take (i + 1)).filter (fun m => decide (m.2 < 0)) = (ms.take i).filter (fun m => decide (m.2 < 0)) := by
          rw [take_snoc hmi, List.filter_append]
          simp [hn]
        refine iteF ⟨sH, by rw [ef]; omega, ?_⟩
        rw [ef]
        exact hD
    · rintro H3 ⟨s3, hl, hD⟩
      rw [take_all (by omega)] at hD hl
      obtain ⟨e1, e2⟩ := ends_eq bal hSu
      generalize hes : (ms.filter fun m => decide (m.2 < 0)).map (·.1) = es at hD e1 e2
      have s03 := (s1.trans s2).trans s3
      refine ⟨_, rfl, D, _, rfl, .inl (SqL.of hD), _, _, rfl, rfl, _, rfl, ?_⟩
      cases es with
      | nil =>
        rw [decide_eq_false (by simp)]
        have e3 := e2 rfl
        subst e3
        exact iteF ⟨_, rfl, p, dx, _, rfl, s03 _ _ h1, p, s, E, rfl, c.same s03, q _ s03⟩
      | cons x r =>
        rw [decide_eq_true (by simp only [List.map_cons, List.length_cons]; omega)]
        have e3 := e1 x List.mem_cons_self
        subst e3
        exact iteT ⟨_, rfl, D, _, _, _, rfl, rfl, SqL.of hD, atI_nat (j := 0) rfl, q _ s03⟩
end
end K76
set_option Elab.async false
set_option linter.all false
set_option maxRecDepth 100000
/-! The walk, tenth part: turned_counts, gone, open_steps, sure_beginning, sure_end. -/
namespace K76
open PySem PySem.Spec PyProof.Rows L2
section
variable {P : Program} {w : World} {K : PySem.W.Frag} {mg : Str → Option Value} {base : Heap} {C : Addr}
/-! ### turned_counts -/
def spTurned (K : PySem.W.Frag) (C : Addr) : Sp := fun vs H Q _ => ∃ p s E t, vs = [.ref p] ∧ CAt K C H p s E ∧ EOk E ∧ Bal s t E ∧ Conn s E ∧ ∀ p' H', Same H H' → CAt K C H' p' t (E.map sw) → Q (.ref p') H'
theorem ok_turned {f fI fE pS fS : Addr} {fd fdI fdE fdS : FuncData} (F : Fun K "turned_counts" "turned_counts" sTurned f fd) (I : Gi P w K mg base C fI fdI) (GE : Gd P w K mg base 8 "end_of" ["counts"] (spEndOf K C) fE fdE)
    (S : Gp P w K mg base 1 C "steps" ["self"] (spSteps K C) pS fS fdS) : FnOk P w K mg base CX0 9 f fd ["counts"] (spTurned K C) := by
  refine F.ok scTurned (fun vs H Q E h => ?_) (fun cdv A outer sh H vs Q E hr h => ?_)
  · obtain ⟨p, s, E, t, rfl, _⟩ := h
    rfl
  · obtain ⟨p, s, E, t, rfl, c, ho, bal, con, q⟩ := h
    have hr2 : Room 2 _ := hr.mono (by decide)
    have hr5 : Room 5 _ := hr.mono (by decide)
    obtain ⟨dx, tb, st, os, is, h1⟩ := c.obj
    refine ⟨_, pss_one (ps_ret (pe_gi I hr5 (by rfl) (pa_cons (pe_g GE hr (by rfl) (pa_cons (pv 0) pa_nil)) (pa_cons
      (pe_lc (own := [("one", 1), ("other", 2), ("many", 3)]) (g := gTup K 3 (gCons (gName 1) (gCons (gName 2) (gCons (gName 3) gNil)))) (tt := tYes) (by rfl) scTurned.nd (pi_tup (pe_gp (pv 0) S hr2 rfl))
        (blkOk_by (own := [("one", 1), ("other", 2), ("many", 3)]) (N := ["counts", "one", "other", "many"]) (sc := defScope sTurned) (by decide +kernel))
        (fun _ _ _ _ _ => pg_tup rfl (pgs_cons (pg_name (i := 1) scTurned.nd rfl (.inl rfl)) (pgs_cons (pg_name (i := 2) scTurned.nd rfl (.inl rfl)) (pgs_cons (pg_name (i := 3) scTurned.nd rfl (.inl rfl)) pgs_nil))))
        (fun _ _ _ _ _ => pts_nil) (fun _ _ _ _ _ => pe_tup (pa_cons (pv 2) (pa_cons (pv 1) (pa_cons (pv 3) pa_nil))))) pa_nil)))), ?_⟩
    refine ⟨_, rfl, p, s, E, t, rfl, c, ho.le, bal, con, fun H1 s1 => ?_⟩
    refine ⟨_, rfl, p, dx, _, rfl, s1 _ _ h1, p, s, E, rfl, c.same s1, fun st3 ts hst3 T => ?_⟩
    obtain ⟨a3, xs, rfl, hS3, hA3⟩ := dp_tup hst3
    have hxl : xs.length = ts.length := by rw [dpAll_len hA3, List.length_map]
    have hsm := T.small ho
    refine ⟨a3, rfl, ⟨_, hS3⟩, fun D nD => ?_⟩
    refine lc_tup (K := K) (a := a3) (xs := xs) (fun i H' => Same H1 H' ∧ ∃ acc, H' D = some (.lst acc) ∧ acc.length = i ∧ DpAll K H' acc (((ts.map flipT).take i).map dTri)) ⟨same_upd nD, [], upd_same, rfl, .nil⟩ (fun i H' _ h => Same.tup' h.1 hS3) ?_ ?_
    · rintro i y H' hi ⟨sH, acc, hacc, hal, hdp⟩
      obtain ⟨t, b, he, ht, rfl, hb⟩ := tri_at hA3 hi
      refine ⟨b, _, rfl, Same.tup' sH hb, rfl, _, _, rfl, _, _, rfl, _, _, rfl, rfl, rfl, _, rfl, _, rfl, _, rfl, (by show 3 ≤ sizeLine; decide), fun T3 n3 => ?_⟩
      have sT3 := same_upd (o := .tup [.str t.2.1, .str t.1, .int t.2.2]) n3
      have hacc2 := sT3 _ _ hacc
      refine ⟨acc, hacc2, ?_, fun c o hc => ?_, acc ++ [.ref T3], upd_same, by rw [List.length_append, hal]; rfl, ?_⟩
      · have hlt := (List.getElem?_eq_some_iff.mp he).1
        have := hsm.1
        rw [hal, sizeLine_eq]; omega
      · rw [upd_ne (ne_of_none hc nD)]
        exact sT3 _ _ (sH _ _ hc)
      · have hmi : (ts.map flipT)[i]? = some (flipT t) := by rw [List.getElem?_map, he]; rfl
        rw [take_snoc hmi, List.map_append]
        have fx : Fix _ (upd _ D (.lst (acc ++ [.ref T3]))) := fix_upd hacc2
        exact dpAll_app (dpAll_fix fx _ _ (noL_tris _) (dpAll_same sT3 _ _ hdp)) (.cons (dp_fix fx _ _ (noL_tri _) (tri_dp (t := flipT t) (SqT.of upd_same))) .nil)
    · rintro H' ⟨sH, acc, hacc, hal, hdp⟩
      rw [take_all (by rw [List.length_map]; omega)] at hdp
      have l1 : (ts.map flipT).length < 1000 := by rw [List.length_map]; exact hsm.1
      have l2 : (exp (ts.map flipT)).length < 1000 := by rw [exp_flip, List.length_map]; exact hsm.2
      refine made (.inl (.lst (SqL.of hacc) hdp)) (fun u hu => ?_) l1 l2 fun p' H2 s2' c' => q p' H2 ((s1.trans sH).trans s2') ?_
      · obtain ⟨v, hv, rfl⟩ := List.mem_map.mp hu
        obtain ⟨z1, z2⟩ := T.stepsIn ho v hv
        exact ⟨fun z => z1 z.symm, z2⟩
      · rw [exp_flip] at c'
        exact c'.perm (T.exp.map sw)
/-! ### gone -/
def spGone (K : PySem.W.Frag) (C : Addr) : Sp := fun vs H Q _ => ∃ p s E x, vs = [.ref p, .str x] ∧ CAt K C H p s E ∧ EOk E ∧ (s, x) ∈ E ∧ ∀ p' H', Same H H' → CAt K C H' p' x (E.erase (s, x)) → Q (.ref p') H'
theorem ok_gone {f fI fX fS fB pT fT : Addr} {fd fdI fdX fdS fdB fdT : FuncData} (F : Fun K "gone" "gone" sGone f fd) (I : Gi P w K mg base C fI fdI) (GX : Gx P w K mg base 1 C fX fdX) (GS : Gs P w K mg base 6 C fS fdS)
    (GB : Gm P w K mg base 6 C "begun" ["self", "place"] (spBegun K C) fB fdB) (GT : Gp P w K mg base 1 C "start" ["self"] (spStart K C) pT fT fdT) : FnOk P w K mg base CX0 7 f fd ["counts", "place"] (spGone K C) := by
  refine F.ok scGone (fun vs H Q E h => ?_) (fun cdv A outer sh H vs Q E hr h => ?_)
  · obtain ⟨p, s, E, x, rfl, _⟩ := h
    rfl
  · obtain ⟨p, s, E, x, rfl, c, ho, hm, q⟩ := h
    have hr2 : Room 2 _ := hr.mono (by decide)
    have hr5 : Room 5 _ := hr.mono (by decide)
    obtain ⟨dx, tb, st, os, is, h1⟩ := c.obj
    refine ⟨_, pss_cons (ps_if (pt_cmpR op_eq (pe_gx GX hr2 (pv 0) (pe_tup (pa_cons (pe_gp (pv 0) GT hr2 rfl) (pa_cons (pv 1) pa_nil)))) pe_int (nomark _)) (pss_one ps_never) pss_nil)
      (pss_one (ps_ret (pe_gm (pe_op (op_gs GS hr) (pv 0) (pe_gi I hr5 (by rfl) (pa_cons (pe_gp (pv 0) GT hr2 rfl) (pa_cons (pe_lst (pa_cons (pe_tup (pa_cons (pe_gp (pv 0) GT hr2 rfl) (pa_cons (pv 1) (pa_cons pe_int pa_nil)))) pa_nil)) pa_nil)))) GB hr (pa_cons (pv 1) pa_nil)))), ?_⟩
    refine ⟨_, rfl, _, rfl, p, dx, _, rfl, h1, p, s, E, rfl, c, _, rfl, (by show 2 ≤ sizeLine; decide), fun T nT => ?_⟩
    have sT := same_upd (o := .tup [.str s, .str x]) nT
    refine ⟨p, dx, _, rfl, sT _ _ h1, p, s, E, T, s, x, rfl, c.same sT, upd_same, rfl, _, rfl, ?_⟩
    have hpos : 0 < E.count (s, x) := List.count_pos_iff.mpr hm
    rw [decide_eq_false (fun z => by have := V.int.inj z; omega)]
    refine iteF ⟨_, rfl, _, rfl, p, dx, _, rfl, sT _ _ h1, p, s, E, rfl, c.same sT, _, rfl, p, dx, _, rfl, sT _ _ h1, p, s, E, rfl, c.same sT, _, rfl, (by show 3 ≤ sizeLine; decide), fun T2 n2 => ⟨(by show 1 ≤ sizeLine; decide), fun l nl => ?_⟩⟩
    have s2 := same_upd (o := .tup [.str s, .str x, .int 1]) n2
    have s3 := same_upd (o := .lst [.ref T2]) nl
    have s03 := (sT.trans s2).trans s3
    have hone : exp [((s, x, (1 : Int)) : Tri)] = [(s, x)] := rfl
    refine made (K := K) (C := C) (s := s) (ts := [(s, x, 1)]) (.inl (.lst (SqL.of upd_same) (.cons (tri_dp (t := (s, x, 1)) (SqT.of (s3 _ _ upd_same))) .nil))) (fun u hu => ?_) (by show 1 < 1000; decide) (by rw [hone]; show 1 < 1000; decide) fun p2 H2 s4 c2 => ?_
    · rw [List.mem_singleton.mp hu]
      exact ⟨ho.un _ hm, (by show (0 : Int) ≤ 1; decide)⟩
    · rw [hone] at c2
      have s04 := s03.trans s4
      obtain ⟨dx2, tb2, st2, os2, is2, g1⟩ := c2.obj
      have hle : ∀ e, [(s, x)].count e ≤ E.count e := fun e => by
        by_cases z : (s, x) = e
        · subst z
          rw [List.count_singleton_self]
          exact hpos
        · rw [List.count_eq_zero_of_not_mem (by rw [List.mem_singleton]; exact fun y => z y.symm)]
          exact Nat.zero_le _
      refine ⟨p, p2, dx, dx2, _, _, rfl, rfl, s04 _ _ h1, g1, p, s, E, p2, s, [(s, x)], rfl, c.same s04, c2, ho, hle, fun p3 E' H3 s5 c3 hcnt => ⟨⟨p3, rfl⟩, ?_⟩⟩
      have hpm : E'.Perm (E.erase (s, x)) := by
        rw [List.perm_iff_count]
        intro e
        rw [hcnt e, List.count_erase]
        by_cases z : (s, x) = e
        · subst z
          rw [List.count_singleton_self, if_pos (beq_self_eq_true _)]
        · have h0 : [(s, x)].count e = 0 := List.count_eq_zero_of_not_mem (by rw [List.mem_singleton]; exact fun y => z y.symm)
          rw [h0, if_neg (by simpa using z)]
      obtain ⟨dx3, tb3, st3, os3, is3, g3⟩ := c3.obj
      exact ⟨p3, dx3, _, rfl, g3, fl_m, _, rfl, p3, s, E.erase (s, x), x, rfl, c3.perm hpm, ho.erase _, fun p4 H4 s6 c4 => q p4 H4 ((s04.trans s5).trans s6) c4⟩
/-! ### open_steps -/
def spOpen (K : PySem.W.Frag) (C : Addr) : Sp := fun vs H Q _ => ∃ p s E, vs = [.ref p] ∧ CAt K C H p s E ∧ EOk E ∧ ∀ l xs H', Same H H' → H l = none → H' l = some (.lst (List.map V.str xs)) → xs.Nodup → (∀ x, x ∈ xs ↔ Opn s E x) → Q (.ref l) H'
theorem ok_open {f fN fG fH pT fT : Addr} {fd fdN fdG fdH fdT : FuncData} (F : Fun K "open_steps" "open_steps" sOpenS f fd) (GN : Gm P w K mg base 2 C "nexts" ["self", "place"] (spNexts K C) fN fdN) (GG : Gd P w K mg base 7 "gone" ["counts", "place"] (spGone K C) fG fdG)
    (GH : Gd P w K mg base 6 "is_had" ["counts"] (spIsHad K C) fH fdH) (GT : Gp P w K mg base 1 C "start" ["self"] (spStart K C) pT fT fdT) : FnOk P w K mg base CX0 8 f fd ["counts"] (spOpen K C) := by
  refine F.ok scOpenS (fun vs H Q E h => ?_) (fun cdv A outer sh H vs Q E hr h => ?_)
  · obtain ⟨p, s, E, rfl, _⟩ := h
    rfl
  · obtain ⟨p, s, E, rfl, c, ho, q⟩ := h
    have hr2 : Room 2 _ := hr.mono (by decide)
    have hr6 : Room 6 _ := hr.mono (by decide)
    obtain ⟨dx, tb, st, os, is, h1⟩ := c.obj
    refine ⟨_, pss_one (ps_ret (pe_lc (own := [("place", 1)]) (g := gName 1) (tt := tB (tCall (spIsHad K C) [] E0 (tCons (tCall (spGone K C) [] E0 (tCons (tVar 0) (tCons (tVar 1) tNil))) tNil))) (by rfl) scOpenS.nd (pi_tup (pe_gm (pv 0) GN hr2 (pa_cons (pe_gp (pv 0) GT hr2 rfl) pa_nil)))
      (blkOk_by (own := [("place", 1)]) (N := ["counts", "place"]) (sc := defScope sOpenS) (by decide +kernel)) (fun _ _ _ _ _ => pg_name (i := 1) scOpenS.nd rfl (.inl rfl))
      (fun _ _ _ _ _ => pts_one (pt_val (pe_g GH hr6 (by rfl) (pa_cons (pe_g GG hr (by rfl) (pa_cons (pv 0) (pa_cons (pv 1) pa_nil))) pa_nil)))) (fun _ _ _ _ _ => pv 1))), ?_⟩
    refine ⟨_, rfl, p, dx, _, rfl, h1, fl_m, _, rfl, p, dx, _, rfl, h1, p, s, E, rfl, c, p, s, E, s, rfl, c, ho.le, fun v ns H1 s1 hv hnd hm hl => ⟨v, rfl, ⟨_, hv⟩, fun D nD => ?_⟩⟩
    refine lc_tup (K := K) (a := v) (xs := ns.map V.str) (fun i H' => Same H1 H' ∧ ∃ xs, H' D = some (.lst (List.map V.str xs)) ∧ xs.length ≤ i ∧ xs.Nodup ∧ ∀ x, x ∈ xs ↔ x ∈ ns.take i ∧ Opn s E x) ⟨same_upd nD, [], upd_same, Nat.le_refl _, List.nodup_nil, fun x => by simp⟩ (fun i H' _ h => Same.tup' h.1 hv) ?_ ?_
    · rintro i y H' hi ⟨sH, xs, hD, hxl, hxn, hxm⟩
      obtain ⟨y, hy, rfl⟩ := str_at hi
      have hyE : (s, y) ∈ E := (hm y).1 (List.mem_of_getElem? hy)
      have hil := (List.getElem?_eq_some_iff.mp hy).1
      have s0 := s1.trans sH
      have hnin : y ∉ ns.take i := fun hmm => by
        have e : ns = ns.take i ++ y :: ns.drop (i + 1) := by
          have := (List.getElem?_eq_some_iff.mp hy).2
          rw [← this, List.getElem_cons_drop, List.take_append_drop]
        rw [e, List.nodup_append] at hnd
        exact hnd.2.2 y hmm y List.mem_cons_self rfl
      refine ⟨rfl, _, rfl, _, rfl, p, s, E, y, rfl, c.same s0, ho, hyE, fun p2 H2 s2 c2 => ?_⟩
      refine ⟨p2, y, E.erase (s, y), rfl, c2, (ho.erase _).le, fun b H3 s3 hb => ⟨b, rfl, ?_⟩⟩
      have hD3 := s3 _ _ (s2 _ _ hD)
      cases b with
      | true =>
        have hop : Opn s E y := ⟨hyE, hb.1 rfl⟩
        refine iteT ⟨_, rfl, _, hD3, ?_, fun b' o hb' => ?_, xs ++ [y], ?_, by rw [List.length_append]; exact Nat.succ_le_succ hxl, ?_, fun x => ?_⟩
        · rw [List.length_map, sizeLine_eq]; omega
        · rw [upd_ne (ne_of_none hb' nD)]
          exact s3 _ _ (s2 _ _ (sH _ _ hb'))
        · rw [upd_same, List.map_append]
          rfl
        · rw [List.nodup_append]
          refine ⟨hxn, List.nodup_cons.mpr ⟨by simp, List.nodup_nil⟩, fun a ha b hb => ?_⟩
          rw [List.mem_singleton.mp hb]
          exact fun z => hnin (z ▸ ((hxm a).1 ha).1)
        · rw [List.mem_append, hxm, take_snoc hy, List.mem_append]
          constructor
          · rintro (⟨z1, z2⟩ | z)
            · exact ⟨.inl z1, z2⟩
            · rw [List.mem_singleton.mp z]; exact ⟨.inr (List.mem_singleton.mpr rfl), hop⟩
          · rintro ⟨z1 | z1, z2⟩
            · exact .inl ⟨z1, z2⟩
            · exact .inr z1
      | false =>
        refine iteF ⟨(sH.trans s2).trans s3, xs, hD3, by omega, hxn, fun x => ?_⟩
        rw [hxm, take_snoc hy, List.mem_append]
        constructor
        · rintro ⟨z1, z2⟩
          exact ⟨.inl z1, z2⟩
        · rintro ⟨z1 | z1, z2⟩
          · exact ⟨z1, z2⟩
          · rw [List.mem_singleton.mp z1] at z2
            exact absurd (hb.2 z2.2) (by decide)
    · rintro H' ⟨sH, xs, hD, hxl, hxn, hxm⟩
      rw [take_all (by rw [List.length_map]; exact Nat.le_refl _)] at hxm
      refine q D xs H' (s1.trans sH) (s1.free nD) hD hxn fun x => ?_
      rw [hxm]
      exact ⟨fun z => z.2, fun z => ⟨(hm x).2 z.1, z⟩⟩
end
end K76
set_option Elab.async false
set_option linter.all false
set_option maxRecDepth 100000
/-! The walk, eleventh part: sure_beginning, sure_end. -/
namespace K76
open PySem PySem.Spec PyProof.Rows L2
theorem one_of {s : Str} {E : List (Str × Str)} {xs : List Str} (nd : xs.Nodup) (hm : ∀ x, x ∈ xs ↔ Opn s E x) : xs.length = 1 ↔ ∃ p, Opn s E p ∧ ∀ q, Opn s E q → q = p := by
  constructor
  · intro h
    obtain ⟨x, rfl⟩ := List.length_eq_one_iff.mp h
    exact ⟨x, (hm x).1 (List.mem_singleton.mpr rfl), fun q hq => List.mem_singleton.mp ((hm q).2 hq)⟩
  · rintro ⟨p, h1, h2⟩
    match xs, nd, hm with
    | [], _, hm => exact absurd ((hm p).2 h1) (by simp)
    | [x], _, _ => rfl
    | x :: y :: r, nd, hm =>
      exfalso
      have e1 := h2 x ((hm x).1 (by simp))
      have e2 := h2 y ((hm y).1 (by simp))
      rw [List.nodup_cons] at nd
      exact nd.1 (by rw [e1, ← e2]; simp)
section
variable {P : Program} {w : World} {K : PySem.W.Frag} {mg : Str → Option Value} {base : Heap} {C : Addr}
def spSureB (K : PySem.W.Frag) (C : Addr) : Sp := fun vs H Q _ => ∃ p s E, vs = [.ref p] ∧ CAt K C H p s E ∧ EOk E ∧ Had s E ∧ ∀ a w H', Same H H' → SqT K H' a (List.map V.str w) → SB s E w → w.length ≤ 31 → Q (.ref a) H'
theorem ok_sureB {f fN fO fG pT fT : Addr} {fd fdN fdO fdG fdT : FuncData} (F : Fun K "sure_beginning" "sure_beginning" sSureB f fd) (B : Bn mg) (GN : Gd P w K mg base 7 "need" ["counts"] (spNeed K C) fN fdN)
    (GO : Gd P w K mg base 8 "open_steps" ["counts"] (spOpen K C) fO fdO) (GG : Gd P w K mg base 7 "gone" ["counts", "place"] (spGone K C) fG fdG) (GT : Gp P w K mg base 1 C "start" ["self"] (spStart K C) pT fT fdT) : FnOk P w K mg base CX0 9 f fd ["counts"] (spSureB K C) := by
  refine F.ok scSureB (fun vs H Q E h => ?_) (fun cdv A outer sh H vs Q E hr h => ?_)
  · obtain ⟨p, s, E, rfl, _⟩ := h
    rfl
  · obtain ⟨p, s, E, rfl, c, ho, had, q⟩ := h
    have hr2 : Room 2 _ := hr.mono (by decide)
    have hr7 : Room 7 _ := hr.mono (by decide)
    obtain ⟨dx, tb, st, os, is, h1⟩ := c.obj
    refine ⟨_, pss_cons (ps_expr (pe_g GN hr7 (by rfl) (pa_cons (pv 0) pa_nil)))
      (pss_cons (ps_par (i := 1) (j := 2) (by rfl) scSureB.nd rfl rfl (by decide) rfl rfl (pa_cons (pe_lst (pa_cons (pe_gp (pv 0) GT hr2 rfl) pa_nil)) (pa_cons (pv 0) pa_nil)) (by rfl))
      (pss_cons (ps_while PassesOwn.never (pt_cmpR op_eq (pe_callB call_len_seq (by rfl) B.len PySem.boot_len (pa_cons (pe_g GO hr (by rfl) (pa_cons (pv 2) pa_nil)) pa_nil)) pe_int (nomark _))
        (pss_cons (ps_set (i := 2) scSureB.nd rfl (.inl rfl) (pe_g GG hr7 (by rfl) (pa_cons (pv 2) (pa_cons (pe_ix ix_list (pe_g GO hr (by rfl) (pa_cons (pv 2) pa_nil)) pe_int (fun _ _ => rfl)) pa_nil))))
        (pss_one (ps_expr (pe_bm PySem.F.plainAttrs_list PySem.F.slot_list_append PySem.F.type_list_append mt_append (pv 1) (pa_cons (pe_gp (pv 2) GT hr2 rfl) pa_nil))))))
      (pss_one (ps_ret (pe_callTy call_tuple_of (by rfl) B.tuple (by decide +kernel) (pa_cons (pv 1) pa_nil)))))), ?_⟩
    refine ⟨_, rfl, p, s, E, rfl, c, ho.le, had, fun H1 s1 => ?_⟩
    refine ⟨_, rfl, p, dx, _, rfl, s1 _ _ h1, p, s, E, rfl, c.same s1, (by show 1 ≤ sizeLine; decide), fun l nl => ?_⟩
    refine ⟨_, rfl, _, _, rfl, ?_⟩
    have sl := same_upd (o := .lst [.str s]) nl
    have nlH : H l = none := s1.free nl
    refine ⟨fun m σ H' => ∃ pre cur F q', m = F.length ∧ σ = [some (.ref p), some (.ref l), some (.ref q')] ∧ Same H H' ∧ H' l = some (.lst (List.map V.str (pre ++ [cur]))) ∧ CAt K C H' q' cur F ∧ EOk F ∧ pre.length + F.length = E.length ∧ ∀ w, SB cur F w → SB s E (pre ++ w),
      ⟨E.length, [], s, E, p, rfl, rfl, s1.trans sl, upd_same, c.same (s1.trans sl), ho, by simp, fun w h => h⟩, ?_⟩
    rintro m σ H2 ⟨pre, cur, F, q', rfl, rfl, s2, hl2, c2, ho2, hlen, hSB⟩
    refine ⟨_, rfl, q', cur, F, rfl, c2, ho2, fun l3 xs H3 s3 n3 h3 hnd hxm => ?_⟩
    refine ⟨l3, _, rfl, .inl (SqL.of h3), rfl, _, rfl, ?_⟩
    rw [List.length_map]
    have hle := ho.le
    have hlF : H2 l ≠ none := by rw [hl2]; exact fun z => by cases z
    by_cases h1x : xs.length = 1
    · rw [show decide (V.int (xs.length : Int) = V.int 1) = true by rw [h1x]; exact decide_eq_true rfl]
      obtain ⟨x, hox, hun⟩ := (one_of hnd hxm).1 h1x
      refine iteT ⟨fun σ' H' => ∃ q3, σ' = [some (.ref p), some (.ref l), some (.ref q3)] ∧ Same H H' ∧ H' l = some (.lst (List.map V.str ((pre ++ [cur]) ++ [x]))) ∧ CAt K C H' q3 x (F.erase (cur, x)), ?_, ?_⟩
      · rintro σ' H' ⟨q3, rfl, sH, hH, c3⟩
        have hpos : 0 < F.length := List.length_pos_of_mem hox.1
        have hel := List.length_erase_of_mem hox.1
        refine ⟨_, by omega, pre ++ [cur], x, F.erase (cur, x), q3, rfl, rfl, sH, hH, c3, ho2.erase _, by rw [List.length_append, List.length_singleton]; omega, fun w hw => ?_⟩
        rw [List.append_assoc]
        exact hSB _ (SB.go hox hun hw)
      · refine ⟨_, rfl, _, rfl, q', cur, F, rfl, c2.same s3, ho2, fun l4 ys H4 s4 n4 h4 hnd4 hym => ?_⟩
        have hx4 : ∃ r, ys = x :: r := by
          cases ys with
          | nil => exact absurd ((hym x).2 hox) (by simp)
          | cons y r => exact ⟨r, by rw [hun y ((hym y).1 List.mem_cons_self)]⟩
        obtain ⟨r, rfl⟩ := hx4
        refine ⟨l4, _, _, _, rfl, rfl, SqL.of h4, atI_nat (j := 0) rfl, q', cur, F, x, rfl, c2.same (s3.trans s4), ho2, hox.1, fun q3 H5 s5 c5 => ?_⟩
        have s35 := (s3.trans s4).trans s5
        have hl5 := s35 _ _ hl2
        obtain ⟨dx5, tb5, st5, os5, is5, g5⟩ := c5.obj
        refine ⟨_, rfl, .inl ⟨rfl, _, SqL.of hl5⟩, _, rfl, q3, dx5, _, rfl, g5, q3, x, _, rfl, c5, l, _, _, rfl, rfl, hl5, ?_, q3, rfl, fun b o hb => ?_, ?_, c5.fix (fix_upd hl5)⟩
        · rw [List.length_map, List.length_append, List.length_singleton, sizeLine_eq]; omega
        · rw [upd_ne (ne_of_none hb nlH)]
          exact s35 _ _ (s2 _ _ hb)
        · rw [upd_same, List.map_append (l₁ := pre ++ [cur])]
          rfl
    · rw [show decide (V.int (xs.length : Int) = V.int 1) = false from decide_eq_false fun z => h1x (by have := V.int.inj z; omega)]
      refine iteF ?_
      have hstop : SB cur F [cur] := SB.stop fun z => h1x ((one_of hnd hxm).2 z)
      refine ⟨_, rfl, l, _, rfl, .inl ⟨SqL.of (s3 _ _ hl2), fun t nt => ?_⟩⟩
      exact q t (pre ++ [cur]) _ ((s2.trans s3).trans (same_upd nt)) (SqT.of upd_same) (hSB _ hstop) (by rw [List.length_append, List.length_singleton]; omega)
def spSureE (K : PySem.W.Frag) (C : Addr) : Sp := fun vs H Q _ => ∃ p s E r, vs = [.ref p] ∧ CAt K C H p s E ∧ EOk E ∧ (stp s r).Perm E ∧ ∀ a w H', Same H H' → SqT K H' a (List.map V.str w.reverse) → SB (lst s r) (E.map sw) w → w.length ≤ 31 → Q (.ref a) H'
theorem ok_sureE {f fB fU : Addr} {fd fdB fdU : FuncData} (F : Fun K "sure_end" "sure_end" sSureE f fd) (GB : Gd P w K mg base 9 "sure_beginning" ["counts"] (spSureB K C) fB fdB)
    (GU : Gd P w K mg base 9 "turned_counts" ["counts"] (spTurned K C) fU fdU) : FnOk P w K mg base CX0 10 f fd ["counts"] (spSureE K C) := by
  refine F.ok scSureE (fun vs H Q E h => ?_) (fun cdv A outer sh H vs Q E hr h => ?_)
  · obtain ⟨p, s, E, r, rfl, _⟩ := h
    rfl
  · obtain ⟨p, s, E, r, rfl, c, ho, hp, q⟩ := h
    refine ⟨_, pss_one (ps_ret (pe_revT (pe_g GB hr (by rfl) (pa_cons (pe_g GU hr (by rfl) (pa_cons (pv 0) pa_nil)) pa_nil)))), ?_⟩
    have bal : Bal s (lst s r) E := (bal_stp r s).perm hp
    have con : Conn s E := (conn_stp r s).perm hp
    obtain ⟨r', _, hp'⟩ := turn_perm hp
    refine ⟨_, rfl, p, s, E, lst s r, rfl, c, ho, bal, con, fun p2 H2 s2 c2 => ?_⟩
    refine ⟨p2, lst s r, E.map sw, rfl, c2, ho.sw, had_of hp', fun a w H3 s3 hT hw hl => ⟨a, _, rfl, hT, fun t nt => ?_⟩⟩
    exact q t w _ ((s2.trans s3).trans (same_upd nt)) (SqT.of (by rw [upd_same, List.map_reverse])) hw hl
end
end K76
set_option Elab.async false
set_option linter.all false
set_option maxRecDepth 100000
/-! The law's own defs, first part: _law_box, _law_take, _law_cells, _law_of. -/
namespace K76
open PySem PySem.Spec PyProof.Rows L2
def BoxAt (H : Hp) (b : Addr) (n : Int) : Prop := ∃ b0 b1 b2 : Int, H b = some (.lst [.int b0, .int b1, .int b2]) ∧ 0 ≤ b0 ∧ 0 ≤ b2 ∧ b2 ≤ n
/-- all but what stands at b -/
def But (b : Addr) (H H' : Hp) : Prop := ∀ c o, c ≠ b → H c = some o → H' c = some o
theorem But.refl (b : Addr) (H : Hp) : But b H H := fun _ _ _ h => h
theorem But.trans {b : Addr} {H H' H2 : Hp} (x : But b H H') (y : But b H' H2) : But b H H2 := fun c o n h => y c o n (x c o n h)
theorem Same.but {b : Addr} {H H' : Hp} (x : Same H H') : But b H H' := fun c o _ h => x c o h
theorem but_upd {b : Addr} {H : Hp} {o : HO} : But b H (upd H b o) := fun c u n h => by rw [upd_ne n]; exact h
theorem BoxAt.same {H H' : Hp} {b : Addr} {n : Int} (x : BoxAt H b n) (s : Same H H') : BoxAt H' b n := by
  obtain ⟨b0, b1, b2, h, r⟩ := x
  exact ⟨b0, b1, b2, s _ _ h, r⟩
theorem BoxAt.le {H : Hp} {b : Addr} {n m : Int} (x : BoxAt H b n) (h : n ≤ m) : BoxAt H b m := by
  obtain ⟨b0, b1, b2, h1, h2, h3, h4⟩ := x
  exact ⟨b0, b1, b2, h1, h2, h3, Int.le_trans h4 h⟩
theorem BoxAt.some {H : Hp} {b : Addr} {n : Int} (x : BoxAt H b n) : ∃ o, H b = some o := by
  obtain ⟨b0, b1, b2, h, r⟩ := x
  exact ⟨_, h⟩
theorem But.fix {H H' : Hp} {b : Addr} {n : Int} (x : But b H H') (h : BoxAt H b n) : Fix H H' := fun c o hc hn => by
  obtain ⟨b0, b1, b2, h1, _⟩ := h
  refine x c o (fun e => ?_) hc
  subst e
  rw [h1] at hc
  exact hn _ (Option.some.inj hc).symm
theorem But.free {b : Addr} {H H' : Hp} (x : But b H H') {l : Addr} (hl : H' l = none) (hb : l ≠ b) : H l = none := by
  cases q : H l with
  | none => rfl
  | some o =>
    rw [x l o hb q] at hl
    cases hl
theorem absI (i : Int) : (if i < 0 then -i else i) = (i.natAbs : Int) := by
  split <;> omega
section
variable {P : Program} {w : World} {K : PySem.W.Frag} {mg : Str → Option Value} {base : Heap}
/-! ### _law_box -/
def spBox (K : PySem.W.Frag) : Sp := fun vs H Q _ => ∃ (a : Addr) (ns : List Int) (k : Nat), vs = [.ref a, .int k] ∧ SqL K H a (List.map V.int ns) ∧ k < ns.length ∧ ∀ l H', Same H H' → H l = none → BoxAt H' l 0 → Q (.ref l) H'
theorem ok_box {f : Addr} {fd : FuncData} {k : Nat} (F : Fun K "_law_box" "_law_box" sLBox f fd) (B : Bn mg) : FnOk P w K mg base CX0 (k + 1) f fd ["_law_script", "_law_k"] (spBox K) := by
  refine F.ok scLBox (fun vs H Q E h => ?_) (fun cdv A outer sh H vs Q E hr h => ?_)
  · obtain ⟨a, ns, k, rfl, _⟩ := h
    rfl
  · obtain ⟨a, ns, k, rfl, hS, hk, q⟩ := h
    refine ⟨_, pss_cons (ps_set (i := 2) scLBox.nd rfl (.inl rfl) (pe_ifExp (pt_cmpR op_lt (pv 1) (pe_callB call_len_seq (by rfl) B.len PySem.boot_len (pa_cons (pv 0) pa_nil)) (nomark _)) (pe_ix ix_list (pv 0) (pv 1) (fun _ _ => rfl)) pe_int))
      (pss_one (ps_ret (pe_lst (pa_cons (pe_op op_mul (pe_callB call_abs (by rfl) B.abs (by decide +kernel) (pa_cons (pv 2) pa_nil)) (pe_callTy call_int1 (by rfl) B.int (by decide +kernel) (pa_cons (pe_cmpR op_ge (pe_callB call_abs (by rfl) B.abs (by decide +kernel) (pa_cons (pv 2) pa_nil)) (pe_op op_pow pe_int pe_int) (nomark _)) pa_nil)))
        (pa_cons (pe_op op_add (pe_op op_add (pe_op op_mod (pe_callTy call_int1 (by rfl) B.int (by decide +kernel) (pa_cons (pv 2) pa_nil)) pe_int) (pe_op op_mul pe_int (pv 1))) pe_int) (pa_cons pe_int pa_nil)))))), ?_⟩
    refine ⟨_, rfl, _, rfl, a, _, rfl, .inl hS, _, _, rfl, rfl, _, rfl, ?_⟩
    rw [decide_eq_true (by rw [List.length_map]; omega)]
    have hat : (ns.map V.int)[k]? = some (.int ns[k]) := by rw [List.getElem?_map, List.getElem?_eq_getElem hk]; rfl
    refine iteT ⟨_, rfl, _, rfl, a, _, _, _, rfl, rfl, hS, atI_nat hat, ?_⟩
    generalize ns[k] = cell
    refine ⟨_, rfl, cell, rfl, _, rfl, cell, rfl, _, _, rfl, rfl, ⟨by decide, by decide, by decide⟩, _, _, rfl, rfl, .inr ⟨_, rfl, ?_⟩⟩
    have bnd : ∀ c : Bool, -(2 ^ 64) < (if c = true then (1 : Int) else 0) ∧ (if c = true then (1 : Int) else 0) < 2 ^ 64 := fun c => by cases c <;> decide
    have nn : ∀ c : Bool, 0 ≤ (if c = true then (1 : Int) else 0) := fun c => by cases c <;> decide
    have an : ∀ i : Int, 0 ≤ (if i < 0 then -i else i) := fun i => by rw [absI]; exact Int.natCast_nonneg _
    refine ⟨_, _, rfl, rfl, .inr (bnd _), ?_⟩
    refine ⟨_, rfl, .inl ⟨_, rfl, _, _, rfl, rfl, (by show (0 : Int) < 2305843009213693951; decide), ?_⟩⟩
    refine ⟨_, rfl, _, _, rfl, rfl, .inl (by decide), _, _, rfl, rfl, _, _, rfl, rfl, (by show 3 ≤ sizeLine; decide), fun l nl => ?_⟩
    exact q l _ (same_upd nl) nl ⟨_, _, _, upd_same, Int.mul_nonneg (an _) (nn _), Int.le_refl _, Int.le_refl _⟩
/-! ### _law_take -/
def spTake (K : PySem.W.Frag) : Sp := fun vs H Q _ => ∃ (b : Addr) (n k : Int), vs = [.ref b, .int k] ∧ BoxAt H b n ∧ n < 1000000 ∧ 0 < k ∧ k < 1000 ∧ ∀ i H', BoxAt H' b (n + 1) → But b H H' → 0 ≤ i → i < k → Q (.int i) H'
theorem ok_take {f : Addr} {fd : FuncData} {k : Nat} (F : Fun K "_law_take" "_law_take" sLTake f fd) (B : Bn mg) : FnOk P w K mg base CX0 (k + 1) f fd ["_law_box_here", "_law_below"] (spTake K) := by
  refine F.ok scLTake (fun vs H Q E h => ?_) (fun cdv A outer sh H vs Q E hr h => ?_)
  · obtain ⟨b, n, k, rfl, _⟩ := h
    rfl
  · obtain ⟨b, n, k, rfl, ⟨b0, b1, b2, hb, h0, h2, hn⟩, hn2, hk0, hk1, q⟩ := h
    refine ⟨_, pss_cons (ps_if (pt_cmpR op_gt (pe_ix ix_list (pv 0) pe_int (fun _ _ => rfl)) pe_int (nomark _))
        (pss_cons (ps_set (i := 2) scLTake.nd rfl (.inl rfl) (pe_op op_mod (pe_callTy call_int1 (by rfl) B.int (by decide +kernel) (pa_cons (pe_ix ix_list (pv 0) pe_int (fun _ _ => rfl)) pa_nil)) (pv 1)))
        (pss_cons (ps_asg (pe_op op_fdiv (pe_ix ix_list (pv 0) pe_int (fun _ _ => rfl)) (pv 1)) (pg_sub (pv 0) pe_int set_list))
        (pss_one (ps_ret (pv 2))))) pss_nil)
      (pss_cons (ps_asg (pe_op op_add (pe_ix ix_list (pv 0) pe_int (fun _ _ => rfl)) pe_int) (pg_sub (pv 0) pe_int set_list))
      (pss_cons (ps_set (i := 3) scLTake.nd rfl (.inl rfl) (pe_op op_mod (pe_callTy call_int1 (by rfl) B.int (by decide +kernel) (pa_cons (pe_op op_mul (pe_op op_add (pe_ix ix_list (pv 0) pe_int (fun _ _ => rfl)) (pe_op op_mul pe_int (pe_ix ix_list (pv 0) pe_int (fun _ _ => rfl)))) (pe_op op_add pe_int (pe_ix ix_list (pv 0) pe_int (fun _ _ => rfl)))) pa_nil)) pe_int))
      (pss_cons (ps_set (i := 4) scLTake.nd rfl (.inl rfl) (pe_op op_add (pe_op op_mod (pe_callTy call_int1 (by rfl) B.int (by decide +kernel) (pa_cons (pv 3) pa_nil)) pe_int) pe_int))
      (pss_cons (ps_set (i := 5) scLTake.nd rfl (.inl rfl) (pe_op op_mod (pe_callTy call_int1 (by rfl) B.int (by decide +kernel) (pa_cons (pe_op op_mul (pe_op op_add (pe_op op_add (pv 3) (pe_ix ix_list (pv 0) pe_int (fun _ _ => rfl))) (pe_op op_fdiv (pe_ix ix_list (pv 0) pe_int (fun _ _ => rfl)) pe_int)) (pv 4)) pa_nil)) pe_int))
      (pss_one (ps_ret (pe_op op_mod (pe_callTy call_int1 (by rfl) B.int (by decide +kernel) (pa_cons (pe_op op_fdiv (pe_op op_mod (pe_callTy call_int1 (by rfl) B.int (by decide +kernel) (pa_cons (pe_op op_add (pe_op op_mul (pv 5) pe_int) (pv 3)) pa_nil)) pe_int) pe_int) pa_nil)) (pv 1)))))))), ?_⟩
    have at0 : ∀ {x y z : Int}, atI [V.int x, .int y, .int z] 0 = some (.int x) := fun {x y z} => atI_nat (j := 0) rfl
    have at1 : ∀ {x y z : Int}, atI [V.int x, .int y, .int z] 1 = some (.int y) := fun {x y z} => atI_nat (j := 1) rfl
    have at2 : ∀ {x y z : Int}, atI [V.int x, .int y, .int z] 2 = some (.int z) := fun {x y z} => atI_nat (j := 2) rfl
    refine ⟨_, rfl, b, _, _, _, rfl, rfl, SqL.of hb, at0, _, _, rfl, rfl, _, rfl, ?_⟩
    by_cases hp : b0 > 0
    · rw [decide_eq_true hp]
      refine iteT ⟨_, rfl, b, _, _, _, rfl, rfl, SqL.of hb, at0, .inl ⟨_, rfl, _, rfl, _, _, rfl, rfl, hk0, ?_⟩⟩
      refine ⟨_, rfl, b, _, _, _, rfl, rfl, SqL.of hb, at0, _, rfl, _, _, rfl, rfl, ⟨hk0, (by omega : k < 1073741824)⟩, _, rfl, b, _, _, 0, rfl, rfl, hb, rfl, ?_⟩
      exact ⟨_, rfl, q _ _ ⟨_, _, _, upd_same, Int.ediv_nonneg h0 (by omega), h2, by omega⟩ but_upd (Int.emod_nonneg _ (by omega)) (Int.emod_lt_of_pos _ hk0)⟩
    · rw [decide_eq_false hp]
      refine iteF ⟨_, rfl, b, _, _, _, rfl, rfl, SqL.of hb, at2, _, _, rfl, rfl, _, rfl, b, _, _, 2, rfl, rfl, hb, rfl, ?_⟩
      have hb1 : (upd H b (.lst [V.int b0, .int b1, .int (b2 + 1)])) b = some (.lst [V.int b0, .int b1, .int (b2 + 1)]) := upd_same
      have hS := SqL.of (K := K) hb1
      refine ⟨_, rfl, b, _, _, _, rfl, rfl, hS, at1, _, rfl, b, _, _, _, rfl, rfl, hS, at2, _, _, rfl, rfl, .inl (by decide), _, _, rfl, rfl, _, rfl, b, _, _, _, rfl, rfl, hS, at2, _, _, rfl, rfl, _, _, rfl, rfl, .inr ?_, .inl ⟨_, rfl, _, _, rfl, rfl, (by show (0 : Int) < 2147483647; decide), ?_⟩⟩
      · constructor <;> omega
      generalize (b1 + 48271 * (b2 + 1)) * (39373 + (b2 + 1)) % 2147483647 = once
      refine ⟨_, rfl, .inl ⟨_, rfl, _, _, rfl, rfl, (by show (0 : Int) < 40009; decide), _, _, rfl, rfl, ?_⟩⟩
      have ho : 0 ≤ once % 40009 ∧ once % 40009 < 40009 := ⟨Int.emod_nonneg _ (by decide), Int.emod_lt_of_pos _ (by decide)⟩
      refine ⟨_, rfl, _, rfl, b, _, _, _, rfl, rfl, hS, at2, _, _, rfl, rfl, _, rfl, b, _, _, _, rfl, rfl, hS, at1, _, _, rfl, rfl, ⟨by decide, by decide⟩, _, _, rfl, rfl, _, rfl, _, _, rfl, rfl, .inr ?_, .inl ⟨_, rfl, _, _, rfl, rfl, (by show (0 : Int) < 2147483629; decide), ?_⟩⟩
      · constructor <;> omega
      generalize (once + (b2 + 1) + b1 / 1000003) * (once % 40009 + 7) % 2147483629 = twice
      refine ⟨_, rfl, _, _, rfl, rfl, .inr (by decide), _, rfl, _, _, rfl, rfl, .inl ⟨_, rfl, _, _, rfl, rfl, (by show (0 : Int) < 2147483587; decide), _, _, rfl, rfl, ⟨by decide, by decide⟩, .inl ⟨_, rfl, _, rfl, _, _, rfl, rfl, hk0, ?_⟩⟩⟩
      exact q _ _ ⟨_, _, _, upd_same, h0, by omega, by omega⟩ but_upd (Int.emod_nonneg _ (by omega)) (Int.emod_lt_of_pos _ hk0)
end
end K76
set_option Elab.async false
set_option linter.all false
set_option maxRecDepth 100000
/-! The law's own defs, second part: _law_cells, _law_of, _law_pick, _law_tags. -/
namespace K76
open PySem PySem.Spec PyProof.Rows L2
theorem cut_map (ns : List Int) (lo hi : Option Int) : ∃ ms : List Int, cutV (ns.map V.int) lo hi = ms.map V.int ∧ ms.length ≤ ns.length := by
  refine ⟨(ns.drop (HT.sIx (ns.map V.int).length 0 lo)).take (HT.sIx (ns.map V.int).length (ns.map V.int).length hi - HT.sIx (ns.map V.int).length 0 lo), ?_, ?_⟩
  · unfold cutV
    rw [List.map_take, List.map_drop]
  · rw [List.length_take, List.length_drop]
    omega
theorem int_at {xs : List Int} {i : Nat} {x : V} (hx : (xs.map V.int)[i]? = some x) : ∃ y, xs[i]? = some y ∧ x = .int y := by
  rw [List.getElem?_map] at hx
  cases e : xs[i]? with
  | none => rw [e] at hx; cases hx
  | some y => rw [e] at hx; exact ⟨y, rfl, (Option.some.inj hx).symm⟩
section
variable {P : Program} {w : World} {K : PySem.W.Frag} {mg : Str → Option Value} {base : Heap}
/-! ### _law_cells -/
def spCells (K : PySem.W.Frag) : Sp := fun vs H Q _ => ∃ (a : Addr) (ns : List Int), vs = [.ref a, .int 3] ∧ SqL K H a (List.map V.int ns) ∧ ns.length ≤ 63 ∧ ∀ l cs H', Same H H' → H l = none → H' l = some (.lst (List.map V.int cs)) → 1 ≤ cs.length → cs.length ≤ 3 → Q (.ref l) H'
theorem ok_cells {f : Addr} {fd : FuncData} {k : Nat} (F : Fun K "_law_cells" "_law_cells" sLCells f fd) (B : Bn mg) : FnOk P w K mg base CX0 (k + 1) f fd ["_law_script", "_law_most_so"] (spCells K) := by
  refine F.ok scLCells (fun vs H Q E h => ?_) (fun cdv A outer sh H vs Q E hr h => ?_)
  · obtain ⟨a, ns, rfl, _⟩ := h
    rfl
  · obtain ⟨a, ns, rfl, hS, hn, q⟩ := h
    refine ⟨_, C8.pss_cut (ps_set (i := 2) scLCells.nd rfl (.inl rfl) (pe_orT (pe_callTy call_list_of (by rfl) B.list (by decide +kernel) (pa_cons (pe_slice sl_list (pv 0) po_none (po_some (pv 1))) pa_nil)) (pe_one (pe_lst (pa_cons pe_int pa_nil)))))
      (pss_cons (ps_for PassesOwn.never rfl (pi_enum (by rfl) B.enumerate (pa_cons (pe_slice sl_list (pv 0) (po_some (pv 1)) (po_some pe_int)) pa_nil)) (pg_tup rfl (pgs_cons (pg_name (i := 3) scLCells.nd rfl (.inl rfl)) (pgs_cons (pg_name (i := 4) scLCells.nd rfl (.inl rfl)) pgs_nil)))
        (pss_cons (ps_set (i := 5) scLCells.nd rfl (.inl rfl) (pe_op op_mod (pe_callTy call_int1 (by rfl) B.int (by decide +kernel) (pa_cons (pv 3) pa_nil)) (pv 1)))
        (pss_one (ps_asg (pe_op op_add (pe_ix ix_list (pv 2) (pv 5) (fun _ _ => rfl)) (pe_op op_mul (pv 4) (pe_op op_add (pv 3) pe_int))) (pg_sub (pv 2) (pv 5) set_list)))))
      (pss_one (ps_ret (pv 2)))), ?_⟩
    refine ⟨fun σ' H' => ∃ (l : Addr) (cs : List Int), σ' = [some (.ref a), some (.int 3), some (.ref l), none, none, none] ∧ Same H H' ∧ H l = none ∧ H' l = some (.lst (cs.map V.int)) ∧ 1 ≤ cs.length ∧ cs.length ≤ 3 ∧ (3 < ns.length → cs.length = 3), ?_, ?_⟩
    · refine ⟨_, rfl, _, rfl, 3, rfl, a, _, rfl, hS, fun p1 n1 => ?_⟩
      rw [show cutV (ns.map V.int) none (some (3 : Int)) = (ns.take 3).map V.int by rw [show (3 : Int) = ((3 : Nat) : Int) from rfl, cut_to, List.map_take]]
      refine ⟨p1, _, rfl, .inl (SqL.of upd_same), fun l nl => ?_⟩
      have s1 := same_upd (o := .lst ((ns.take 3).map V.int)) n1
      have s2 := same_upd (o := .lst ((ns.take 3).map V.int)) nl
      refine ⟨_, .inl ⟨_, SqL.of upd_same, rfl⟩, ?_⟩
      cases ns with
      | nil =>
        refine iteF ⟨(by show 1 ≤ sizeLine; decide), fun l2 nl2 => ⟨l2, [0], rfl, (s1.trans s2).trans (same_upd nl2), (s1.trans s2).free nl2, upd_same, Nat.le_refl _, by decide, fun z => absurd z (by simp)⟩⟩
      | cons x r =>
        refine iteT ⟨l, (x :: r).take 3, rfl, s1.trans s2, s1.free nl, upd_same, ?_, ?_, fun z => ?_⟩
        · rw [List.length_take, List.length_cons]; omega
        · rw [List.length_take]; omega
        · rw [List.length_take]; omega
    · rintro σ' H1 ⟨l, cs, rfl, s1, nl, hl, h1, h3, hfull⟩
      refine ⟨_, rfl, _, rfl, 3, rfl, 63, rfl, a, _, rfl, s1.seq hS, fun p2 n2 => ?_⟩
      obtain ⟨ms, hms, _⟩ := cut_map ns (some 3) (some 63)
      have hlen : 0 < ms.length → 3 < ns.length := fun z => by
        have e := congrArg List.length hms
        unfold cutV at e
        rw [List.length_take, List.length_drop, List.length_map, List.length_map, show (3 : Int) = ((3 : Nat) : Int) from rfl, HT.sIx_nat] at e
        omega
      rw [hms]
      have s2 := same_upd (o := .lst (ms.map V.int)) n2
      have hl2 := s2 _ _ hl
      have plb : p2 ≠ l := fun e => by rw [e, hl] at n2; cases n2
      refine ⟨p2, ms.map V.int, rfl, SqL.of upd_same, ?_⟩
      refine for_it walk_enum (fun i σ H' => ∃ (cs' : List Int) (x3 x4 x5 : Option V), σ = [some (.ref a), some (.int 3), some (.ref l), x3, x4, x5] ∧ Same H H' ∧ H' p2 = some (.lst (ms.map V.int)) ∧ H' l = some (.lst (cs'.map V.int)) ∧ cs'.length = cs.length)
        ⟨cs, none, none, none, rfl, s1.trans s2, upd_same, hl2, rfl⟩ (fun i σ H' _ h => by
          obtain ⟨_, _, _, _, _, _, h, _⟩ := h
          exact SqL.of h) ?_ ?_
      · rintro i x σ H' H'' hi ⟨cs', x3, x4, x5, rfl, sH, hp, hl', hcl⟩ ⟨T, y1, y2, rfl, nT, rfl, e1, e2⟩
        rw [List.length_map] at hi
        have hc3 := hfull (hlen (by omega))
        cases Option.some.inj e1
        obtain ⟨cell, hcell, rfl⟩ := int_at e2
        have sT := same_upd (o := .tup [.int (i : Int), .int cell]) nT
        refine ⟨T, _, rfl, SqT.of upd_same, rfl, _, _, rfl, _, _, rfl, rfl, ?_⟩
        refine ⟨_, rfl, .inl ⟨_, rfl, _, rfl, _, _, rfl, rfl, (by show (0 : Int) < 3; decide), ?_⟩⟩
        have hj : ∃ j : Nat, (i : Int) % 3 = (j : Int) ∧ j < 3 := ⟨i % 3, by omega, by omega⟩
        obtain ⟨j, ej, hj⟩ := hj
        have hjl : j < cs'.length := by omega
        have hat : (cs'.map V.int)[j]? = some (.int cs'[j]) := by rw [List.getElem?_map, List.getElem?_eq_getElem hjl]; rfl
        have hlT := sT _ _ hl'
        refine ⟨_, rfl, _, rfl, l, _, _, _, rfl, rfl, SqL.of hlT, (by rw [ej]; exact atI_nat hat), _, rfl, _, rfl, _, _, rfl, rfl, _, _, rfl, rfl, .inr ⟨by omega, by omega⟩, _, _, rfl, rfl, _, rfl, _, rfl, l, _, _, j, rfl, rfl, hlT, ?_, ?_⟩
        · rw [ej]
          unfold ixN
          rw [if_pos (by omega), if_pos (by rw [List.length_map]; omega)]
          simp
        · refine ⟨cs'.set j (cs'[j] + cell * ((i : Int) + 2)), _, _, _, rfl, fun b o hb => ?_, ?_, ?_, by rw [List.length_set]; exact hcl⟩
          · rw [upd_ne (ne_of_none hb nl)]
            exact sT _ _ (sH _ _ hb)
          · rw [upd_ne plb]
            exact sT _ _ hp
          · rw [upd_same, List.map_set]
      · rintro σ H' ⟨cs', x3, x4, x5, rfl, sH, hp, hl', hcl⟩
        exact ⟨_, rfl, q l cs' H' sH nl hl' (by omega) (by omega)⟩
end
end K76
set_option Elab.async false
set_option linter.all false
set_option maxRecDepth 100000
/-! The law's own defs, third part: _law_of, _law_pick, _law_tags. -/
namespace K76
open PySem PySem.Spec PyProof.Rows L2
/-- list(x) of a text or of a list -/
theorem call_list2 {X : Cx} (hc : X.calm = true) : CallR X (.type "list") (fun xs H Q => (∃ z, xs = [.str z] ∧ z.cps.size ≤ sizeLine ∧ ∀ l, H l = none → Q (.ref l) (upd H l (.lst (z.cps.toList.map fun c => V.str ⟨#[c]⟩)))) ∨
    ∃ p ys, xs = [.ref p] ∧ (SqL X.K H p ys ∨ SqT X.K H p ys) ∧ ∀ l, H l = none → Q (.ref l) (upd H l (.lst ys))) := by
  intro pins s σ H xs us Q I r h
  rcases h with h | h
  · exact call_listS hc pins s σ H xs us Q I r h
  · exact call_list_of pins s σ H xs us Q I r h
theorem erase_map {α β : Type} (f : α → β) : ∀ (xs : List α) (j : Nat), (xs.map f).eraseIdx j = (xs.eraseIdx j).map f
  | [], _ => rfl
  | _ :: _, 0 => rfl
  | x :: xs, j + 1 => by
    show f x :: (xs.map f).eraseIdx j = f x :: (xs.eraseIdx j).map f
    rw [erase_map f xs j]
theorem seqIx {i : Int} {n : Nat} (h0 : 0 ≤ i) (h1 : i < n) : seqIndex? i n = some i.toNat := by
  unfold seqIndex?
  simp only [if_neg (Int.not_lt.mpr h0)]
  rw [if_pos (by simp [h0, h1])]
section
variable {P : Program} {w : World} {K : PySem.W.Frag} {mg : Str → Option Value} {base : Heap}
/-! ### _law_of -/
def spLOf (K : PySem.W.Frag) : Sp := fun vs H Q _ => ∃ (b a : Addr) (n : Int) (ss : List Str), vs = [.ref b, .ref a] ∧ BoxAt H b n ∧ n < 1000000 ∧ H a = some (.lst (List.map V.str ss)) ∧ 0 < ss.length ∧ ss.length < 1000 ∧
  ∀ x H', x ∈ ss → BoxAt H' b (n + 1) → But b H H' → Q (.str x) H'
theorem ok_lof {f fT : Addr} {fd fdT : FuncData} (F : Fun K "_law_of" "_law_of" sLOf f fd) (B : Bn mg) (GT : Gd P w K mg base 1 "_law_take" ["_law_box_here", "_law_below"] (spTake K) fT fdT) : FnOk P w K mg base CX0 2 f fd ["_law_box_here", "_law_some"] (spLOf K) := by
  refine F.ok scLOf (fun vs H Q E h => ?_) (fun cdv A outer sh H vs Q E hr h => ?_)
  · obtain ⟨b, a, n, ss, rfl, _⟩ := h
    rfl
  · obtain ⟨b, a, n, ss, rfl, hb, hn, ha, h0, h1, q⟩ := h
    refine ⟨_, pss_one (ps_ret (pe_ix ix_list (pv 1) (pe_g GT hr (by rfl) (pa_cons (pv 0) (pa_cons (pe_callB call_len_seq (by rfl) B.len PySem.boot_len (pa_cons (pv 1) pa_nil)) pa_nil))) (fun _ _ => rfl))), ?_⟩
    have nab : a ≠ b := fun e => by
      obtain ⟨b0, b1, b2, hb', _⟩ := hb
      rw [e, hb'] at ha
      cases ss with
      | nil => cases Option.some.inj ha
      | cons x r => cases Option.some.inj ha
    refine ⟨_, rfl, _, rfl, _, rfl, a, _, rfl, .inl (SqL.of ha), ?_⟩
    refine ⟨b, n, _, rfl, hb, hn, by rw [List.length_map]; omega, by rw [List.length_map]; omega, fun i H' hb' hB hi0 hi1 => ?_⟩
    rw [List.length_map] at hi1
    have hlt : i.toNat < ss.length := by omega
    have hat : (ss.map V.str)[i.toNat]? = some (.str ss[i.toNat]) := by rw [List.getElem?_map, List.getElem?_eq_getElem hlt]; rfl
    refine ⟨a, _, i, _, rfl, rfl, SqL.of (hB _ _ nab ha), ?_, q _ H' (List.getElem_mem hlt) hb' hB⟩
    have z := atI_nat hat
    rw [Int.toNat_of_nonneg hi0] at z
    exact z
/-! ### _law_pick -/
/-- a pool: a text, sign by sign, or a list of texts -/
def Pool (K : PySem.W.Frag) (H : Hp) (v : V) (ss : List Str) : Prop := (∃ z : Str, v = .str z ∧ z.cps.size ≤ 1000 ∧ ss = z.cps.toList.map fun c => ⟨#[c]⟩) ∨ ∃ a, v = .ref a ∧ SqL K H a (ss.map V.str)
def spPick (K : PySem.W.Frag) : Sp := fun vs H Q _ => ∃ (b : Addr) (n m : Int) (v : V) (ss : List Str), vs = [.ref b, v, .int m] ∧ BoxAt H b n ∧ n < 999000 ∧ Pool K H v ss ∧ ss.length ≤ 100 ∧ 0 ≤ m ∧ m ≤ ss.length ∧ ss.Nodup ∧
  ∀ l ts H', BoxAt H' b (n + m) → But b H H' → H l = none → H' l = some (.lst (List.map V.str ts)) → ts.Nodup → (∀ x ∈ ts, x ∈ ss) → (ts.length : Int) = m → Q (.ref l) H'
theorem ok_pick {f fT : Addr} {fd fdT : FuncData} (F : Fun K "_law_pick" "_law_pick" sLPick f fd) (B : Bn mg) (GT : Gd P w K mg base 1 "_law_take" ["_law_box_here", "_law_below"] (spTake K) fT fdT) : FnOk P w K mg base CX0 2 f fd ["_law_box_here", "_law_pool_so", "_law_many_so"] (spPick K) := by
  refine F.ok scLPick (fun vs H Q E h => ?_) (fun cdv A outer sh H vs Q E hr h => ?_)
  · obtain ⟨b, n, m, v, ss, rfl, _⟩ := h
    rfl
  · obtain ⟨b, n, m, v, ss, rfl, hb, hn, hP, hl, hm0, hm1, hnd, q⟩ := h
    refine ⟨_, C8.pss_cut (ps_par (i := 3) (j := 4) (by rfl) scLPick.nd rfl rfl (by decide) rfl rfl (pa_cons (pe_callTy (call_list2 rfl) (by rfl) B.list (by decide +kernel) (pa_cons (pv 1) pa_nil)) (pa_cons (pe_lst pa_nil) pa_nil)) (by rfl))
      (pss_cons (ps_for PassesOwn.never rfl (pi_range1 (by rfl) B.range (pa_cons (pe_callB (call_min2 rfl) (by rfl) B.min (by decide +kernel) (pa_cons (pv 2) (pa_cons (pe_callB call_len_seq (by rfl) B.len PySem.boot_len (pa_cons (pv 3) pa_nil)) pa_nil))) pa_nil)) (pg_name (i := 5) scLPick.nd rfl (.inl rfl))
        (pss_one (ps_expr (pe_bm PySem.F.plainAttrs_list PySem.F.slot_list_append PySem.F.type_list_append mt_append (pv 4) (pa_cons
          (pe_bm PySem.F.plainAttrs_list PySem.F.slot_list_pop PySem.F.type_list_pop mt_popAt (pv 3) (pa_cons (pe_g GT hr (by rfl) (pa_cons (pv 0) (pa_cons (pe_callB call_len_seq (by rfl) B.len PySem.boot_len (pa_cons (pv 3) pa_nil)) pa_nil))) pa_nil)) pa_nil)))))
      (pss_one (ps_ret (pv 4)))), ?_⟩
    refine ⟨fun σ' H' => ∃ (lr lf : Addr), σ' = [some (.ref b), some v, some (.int m), some (.ref lr), some (.ref lf), none] ∧ Same H H' ∧ H lr = none ∧ H lf = none ∧ lr ≠ lf ∧ H' lr = some (.lst (ss.map V.str)) ∧ H' lf = some (.lst []), ?_, ?_⟩
    · have fin : ∀ lr, H lr = none → ∀ lf, (upd H lr (.lst (ss.map V.str))) lf = none → ∃ (lr' lf' : Addr), ((([some (.ref b), some v, some (.int m), none, none, none] : L2.St).set 3 (some (.ref lr))).set 4 (some (.ref lf))) = [some (.ref b), some v, some (.int m), some (.ref lr'), some (.ref lf'), none] ∧
          Same H (upd (upd H lr (.lst (ss.map V.str))) lf (.lst [])) ∧ H lr' = none ∧ H lf' = none ∧ lr' ≠ lf' ∧ (upd (upd H lr (.lst (ss.map V.str))) lf (.lst [])) lr' = some (.lst (ss.map V.str)) ∧ (upd (upd H lr (.lst (ss.map V.str))) lf (.lst [])) lf' = some (.lst []) := fun lr nr lf nf => by
        have ne : lr ≠ lf := fun e => by rw [← e, upd_same] at nf; cases nf
        exact ⟨lr, lf, rfl, (same_upd nr).trans (same_upd nf), nr, (same_upd nr).free nf, ne, by rw [upd_ne ne, upd_same], upd_same⟩
      rcases hP with ⟨z, rfl, hz, rfl⟩ | ⟨a, rfl, hS⟩
      · refine ⟨_, rfl, .inl ⟨z, rfl, by rw [sizeLine_eq]; omega, fun lr nr => ?_⟩⟩
        rw [show (z.cps.toList.map fun c => V.str ⟨#[c]⟩) = (z.cps.toList.map fun c => (⟨#[c]⟩ : Str)).map V.str by rw [List.map_map]; rfl]
        exact ⟨Nat.zero_le _, fun lf nf => ⟨_, _, rfl, fin lr nr lf nf⟩⟩
      · refine ⟨_, rfl, .inr ⟨a, _, rfl, .inl hS, fun lr nr => ?_⟩⟩
        exact ⟨Nat.zero_le _, fun lf nf => ⟨_, _, rfl, fin lr nr lf nf⟩⟩
    · rintro σ' H1 ⟨lr, lf, rfl, s1, nr, nf, ne, hlr, hlf⟩
      obtain ⟨bo, hbo⟩ := hb.some
      have nrb : lr ≠ b := (ne_of_none hbo nr).symm
      have nfb : lf ≠ b := (ne_of_none hbo nf).symm
      refine ⟨_, rfl, _, rfl, lr, _, rfl, .inl (SqL.of hlr), _, _, rfl, ?_⟩
      rw [List.length_map, if_neg (by omega)]
      refine ⟨m, rfl, by omega, by omega, ?_⟩
      rw [show m.toNat = (m - 0).toNat by omega]
      refine for_range (lo := 0) (n := (m - 0).toNat) (fun i σ H' => ∃ (rest found : List Str) (x5 : Option V), σ = [some (.ref b), some v, some (.int m), some (.ref lr), some (.ref lf), x5] ∧ BoxAt H' b (n + i) ∧ But b H H' ∧ H' lr = some (.lst (rest.map V.str)) ∧ H' lf = some (.lst (found.map V.str)) ∧ (found ++ rest).Perm ss ∧ found.length = i)
        ⟨ss, [], none, rfl, by rw [show n + ((0 : Nat) : Int) = n by omega]; exact hb.same s1, Same.but s1, hlr, hlf, List.Perm.refl _, rfl⟩ ?_ ?_
      · rintro i σ H' hi ⟨rest, found, x5, rfl, hb', hB, hr', hf', pm, hfl⟩
        have hpl := pm.length_eq
        rw [List.length_append] at hpl
        refine ⟨_, rfl, .inl ⟨rfl, _, SqL.of hf'⟩, _, rfl, .inl ⟨rfl, _, SqL.of hr'⟩, _, rfl, _, rfl, lr, _, rfl, .inl (SqL.of hr'), ?_⟩
        rw [List.length_map]
        refine ⟨b, n + i, _, rfl, hb', by omega, by omega, by omega, fun j H2 hb2 hB2 hj0 hj1 => ?_⟩
        have hr2 := hB2 _ _ nrb hr'
        have hf2 := hB2 _ _ nfb hf'
        have hlt : j.toNat < rest.length := by omega
        have hat : (rest.map V.str)[j.toNat]? = some (.str rest[j.toNat]) := by rw [List.getElem?_map, List.getElem?_eq_getElem hlt]; rfl
        refine ⟨lr, _, j, j.toNat, _, rfl, rfl, hr2, by omega, by omega, seqIx hj0 (by rw [List.length_map]; omega), hat, ?_⟩
        have hf3 : (upd H2 lr (.lst ((rest.map V.str).eraseIdx j.toNat))) lf = some (.lst (found.map V.str)) := by rw [upd_ne ne.symm]; exact hf2
        refine ⟨lf, _, _, rfl, rfl, hf3, by rw [List.length_map, sizeLine_eq]; omega, rest.eraseIdx j.toNat, found ++ [rest[j.toNat]], _, rfl, ?_, fun c o hc ho => ?_, ?_, ?_, ?_, by rw [List.length_append, hfl]; rfl⟩
        · obtain ⟨b0, b1, b2, g1, g2, g3, g4⟩ := hb2
          refine ⟨b0, b1, b2, ?_, g2, g3, by omega⟩
          rw [upd_ne nfb.symm, upd_ne nrb.symm]
          exact g1
        · rw [upd_ne (ne_of_none ho nf), upd_ne (ne_of_none ho nr)]
          exact hB2 _ _ hc (hB _ _ hc ho)
        · rw [upd_ne ne, upd_same, erase_map]
        · rw [upd_same, List.map_append]
          rfl
        · have e1 : (rest[j.toNat] :: rest.eraseIdx j.toNat).Perm rest := L2.erase_perm rest j.toNat _ (List.getElem?_eq_getElem hlt)
          rw [List.append_assoc]
          exact (List.Perm.append_left found e1).trans pm
      · rintro σ H' ⟨rest, found, x5, rfl, hb', hB, hr', hf', pm, hfl⟩
        have hnd2 := (pm.nodup_iff.mpr hnd)
        rw [List.nodup_append] at hnd2
        refine ⟨_, rfl, q lf found H' ?_ hB nf hf' hnd2.1 (fun x hx => pm.mem_iff.mp (List.mem_append.mpr (.inl hx))) (by omega)⟩
        rw [show n + m = n + ((m - 0).toNat : Int) by omega]
        exact hb'
end
end K76
set_option Elab.async false
set_option linter.all false
set_option maxRecDepth 100000
/-! The law's own defs, fourth part: _law_tags, _law_walk. -/
namespace K76
open PySem PySem.Spec PyProof.Rows L2
/-- a text that can be laid -/
def Sk (x : Str) : Prop := x.cps.all (· < 0x110000) = true
instance (x : Str) : Decidable (Sk x) := inferInstanceAs (Decidable (_ = true))
def poolA : Str := "abcdefgh"
def poolB : List Str := ["a", "ab", "abc", "b", "ba", "z", "zzzzzzzz", "y"]
def poolC : List Str := ["hall", "hal", "desk", "shop", "yard", "gate", "inn", "ford"]
def poolAs : List Str := poolA.cps.toList.map fun c => ⟨#[c]⟩
theorem pA_len : poolAs.length = 8 := by decide +kernel
theorem pA_nd : poolAs.Nodup := by decide +kernel
theorem pB_nd : poolB.Nodup := by decide +kernel
theorem pC_nd : poolC.Nodup := by decide +kernel
theorem pA_sk : ∀ x ∈ poolAs, Sk x := by decide +kernel
theorem pB_sk : ∀ x ∈ poolB, Sk x := by decide +kernel
theorem pC_sk : ∀ x ∈ poolC, Sk x := by decide +kernel
theorem pA_sz : poolA.cps.size ≤ 1000 := by decide +kernel
theorem atI_end {α : Type} {xs : List α} {v : α} (h : xs.getLast? = some v) : atI xs (-1) = some v := by
  obtain ⟨ys, rfl⟩ := List.getLast?_eq_some_iff.mp h
  exact atI_last ys v
theorem last_map (x : Str) (r : List Str) : atI ((x :: r).map V.str) (-1) = some (.str (lst x r)) := atI_end (by rw [List.getLast?_map, lst_getLast]; rfl)
theorem atI_pen {α : Type} (ys : List α) (u v : α) : atI (ys ++ [u, v]) (-2) = some u := by
  have hl : (ys ++ [u, v]).length = ys.length + 2 := by simp
  unfold atI ixN
  rw [hl, if_neg (by decide), if_pos (by omega)]
  have e : (-2 + ((ys.length + 2 : Nat) : Int)).toNat = ys.length := by omega
  rw [e]
  simp
/-- the place before the last -/
theorem pen_of {x : Str} {r : List Str} (h : r ≠ []) : ∃ p, atI ((x :: r).map V.str) (-2) = some (.str p) ∧ (p, lst x r) ∈ stp x r ∧ p ∈ x :: r := by
  obtain ⟨r0, y, rfl⟩ : ∃ r0 y, r = r0 ++ [y] := ⟨r.dropLast, r.getLast h, (List.dropLast_concat_getLast h).symm⟩
  refine ⟨lst x r0, ?_, ?_, ?_⟩
  · have hg := lst_getLast r0 x
    obtain ⟨ys, e⟩ := List.getLast?_eq_some_iff.mp hg
    have e2 : (x :: (r0 ++ [y])).map V.str = ys.map V.str ++ [.str (lst x r0), .str y] := by
      rw [show x :: (r0 ++ [y]) = (x :: r0) ++ [y] from rfl, e, List.map_append, List.map_append, List.append_assoc]
      rfl
    rw [e2]
    exact atI_pen _ _ _
  · rw [stp_append, lst_append]
    exact List.mem_append.mpr (.inr List.mem_cons_self)
  · have hg := lst_getLast r0 x
    have := List.mem_of_getLast? hg
    rcases List.mem_cons.mp this with z | z
    · rw [z]; exact List.mem_cons_self
    · exact List.mem_cons_of_mem _ (List.mem_append.mpr (.inl z))
section
variable {P : Program} {w : World} {K : PySem.W.Frag} {mg : Str → Option Value} {base : Heap}
/-! ### _law_tags -/
def spTags (K : PySem.W.Frag) : Sp := fun vs H Q _ => ∃ (b : Addr) (n m : Int), vs = [.ref b, .int m] ∧ BoxAt H b n ∧ n < 990000 ∧ 0 ≤ m ∧ m ≤ 8 ∧
  ∀ l ts H', BoxAt H' b (n + 9) → But b H H' → H l = none → H' l = some (.lst (List.map V.str ts)) → ts.Nodup → (∀ x ∈ ts, Sk x) → (ts.length : Int) = m → Q (.ref l) H'
theorem ok_tags {f fT fP : Addr} {fd fdT fdP : FuncData} (F : Fun K "_law_tags" "_law_tags" sLTags f fd) (GT : Gd P w K mg base 1 "_law_take" ["_law_box_here", "_law_below"] (spTake K) fT fdT)
    (GP : Gd P w K mg base 2 "_law_pick" ["_law_box_here", "_law_pool_so", "_law_many_so"] (spPick K) fP fdP) : FnOk P w K mg base CX0 3 f fd ["_law_box_here", "_law_many_so"] (spTags K) := by
  refine F.ok scLTags (fun vs H Q E h => ?_) (fun cdv A outer sh H vs Q E hr h => ?_)
  · obtain ⟨b, n, m, rfl, _⟩ := h
    rfl
  · obtain ⟨b, n, m, rfl, hb, hn, hm0, hm1, q⟩ := h
    have hr1 : Room 1 _ := hr.mono (by decide)
    refine ⟨_, pss_cons (ps_set (i := 2) scLTags.nd rfl (.inl rfl) (pe_g GT hr1 (by rfl) (pa_cons (pv 0) (pa_cons pe_int pa_nil))))
      (pss_cons (ps_if (pt_cmpR op_eq (pv 2) pe_int (nomark _)) (pss_one (ps_ret (pe_g GP hr (by rfl) (pa_cons (pv 0) (pa_cons pe_str (pa_cons (pv 1) pa_nil)))))) pss_nil)
      (pss_cons (ps_if (pt_cmpR op_eq (pv 2) pe_int (nomark _)) (pss_one (ps_ret (pe_g GP hr (by rfl) (pa_cons (pv 0) (pa_cons (pe_lst (pa_cons pe_str (pa_cons pe_str (pa_cons pe_str (pa_cons pe_str (pa_cons pe_str (pa_cons pe_str (pa_cons pe_str (pa_cons pe_str pa_nil))))))))) (pa_cons (pv 1) pa_nil)))))) pss_nil)
      (pss_one (ps_ret (pe_g GP hr (by rfl) (pa_cons (pv 0) (pa_cons (pe_lst (pa_cons pe_str (pa_cons pe_str (pa_cons pe_str (pa_cons pe_str (pa_cons pe_str (pa_cons pe_str (pa_cons pe_str (pa_cons pe_str pa_nil))))))))) (pa_cons (pv 1) pa_nil)))))))), ?_⟩
    obtain ⟨bo, hbo⟩ := hb.some
    refine ⟨_, rfl, b, n, 3, rfl, hb, by omega, by decide, by decide, fun i H1 hb1 hB1 hi0 hi1 => ?_⟩
    refine ⟨_, rfl, rfl, _, rfl, ?_⟩
    obtain ⟨bo1, hbo1⟩ := hb1.some
    have fin : ∀ (ss : List Str), ss.length = 8 → (∀ x ∈ ss, Sk x) → ∀ (H2 : Hp), Same H1 H2 → ∀ l ts H', BoxAt H' b (n + 1 + m) → But b H2 H' → H2 l = none → H' l = some (.lst (List.map V.str ts)) → ts.Nodup → (∀ x ∈ ts, x ∈ ss) → (ts.length : Int) = m → Q (.ref l) H' :=
      fun ss hs hk H2 s2 l ts H' hb' hB' hl hl' nd hin hlen =>
        q l ts H' (hb'.le (by omega)) (hB1.trans ((Same.but s2).trans hB')) (hB1.free (s2.free hl) (fun e => by rw [e, s2 _ _ hbo1] at hl; cases hl)) hl' nd (fun x hx => hk x (hin x hx)) hlen
    by_cases c0 : i = 0
    · rw [decide_eq_true (by rw [c0])]
      refine iteT ⟨_, rfl, _, rfl, b, n + 1, m, _, poolAs, rfl, hb1, by omega, .inl ⟨poolA, rfl, pA_sz, rfl⟩, by rw [pA_len]; decide, hm0, by rw [pA_len]; omega, pA_nd, fin _ pA_len pA_sk _ (Same.refl _)⟩
    · rw [decide_eq_false (fun z => c0 (V.int.inj z))]
      refine iteF ⟨_, rfl, rfl, _, rfl, ?_⟩
      by_cases c1 : i = 1
      · rw [decide_eq_true (by rw [c1])]
        refine iteT ⟨_, rfl, (by show 8 ≤ sizeLine; decide), fun lp np => ⟨_, rfl, b, n + 1, m, _, poolB, rfl, hb1.same (same_upd np), by omega, .inr ⟨lp, rfl, SqL.of upd_same⟩, by decide, hm0, by show m ≤ (8 : Int); omega, pB_nd, fin _ rfl pB_sk _ (same_upd np)⟩⟩
      · rw [decide_eq_false (fun z => c1 (V.int.inj z))]
        refine iteF ⟨_, rfl, (by show 8 ≤ sizeLine; decide), fun lp np => ⟨_, rfl, b, n + 1, m, _, poolC, rfl, hb1.same (same_upd np), by omega, .inr ⟨lp, rfl, SqL.of upd_same⟩, by decide, hm0, by show m ≤ (8 : Int); omega, pC_nd, fin _ rfl pC_sk _ (same_upd np)⟩⟩
/-! ### _law_walk -/
def Unl (x : Str) (r : List Str) : Prop := ∀ e ∈ stp x r, e.1 ≠ e.2
theorem Unl.snoc {x y : Str} {r : List Str} (h : Unl x r) (hy : y ≠ lst x r) : Unl x (r ++ [y]) := fun e he => by
  rw [stp_append] at he
  rcases List.mem_append.mp he with z | z
  · exact h e z
  · have z' : e ∈ [(lst x r, y)] := z
    rw [List.mem_singleton.mp z']
    exact fun z => hy z.symm
theorem near_pos {ts : List Str} (nd : ts.Nodup) (h : 2 ≤ ts.length) (l : Str) : 0 < (ts.filter fun x => decide (x ≠ l)).length := by
  match ts, nd, h with
  | a :: b :: r, nd, _ =>
    rw [List.nodup_cons] at nd
    have hab : a ≠ b := fun e => nd.1 (by rw [e]; simp)
    by_cases ha : a = l
    · have hb : b ≠ l := fun e => hab (by rw [ha, e])
      exact List.length_pos_of_mem (List.mem_filter.mpr ⟨by simp, decide_eq_true hb⟩)
    · exact List.length_pos_of_mem (List.mem_filter.mpr ⟨by simp, decide_eq_true ha⟩)
theorem lst_ne_box {H : Hp} {a b : Addr} {n : Int} {ts : List Str} (ha : H a = some (.lst (ts.map V.str))) (hb : BoxAt H b n) : a ≠ b := fun e => by
  obtain ⟨b0, b1, b2, hb', _⟩ := hb
  rw [e, hb'] at ha
  cases ts with
  | nil => cases Option.some.inj ha
  | cons x r => cases Option.some.inj ha
def spWalk (K : PySem.W.Frag) : Sp := fun vs H Q _ => ∃ (b a : Addr) (n : Int) (mo : Nat) (ts : List Str), vs = [.ref b, .ref a, .int mo] ∧ BoxAt H b n ∧ n < 990000 ∧ H a = some (.lst (List.map V.str ts)) ∧ ts.Nodup ∧ 2 ≤ ts.length ∧ ts.length ≤ 8 ∧ mo ≤ 30 ∧
  ∀ v x r H', BoxAt H' b (n + 100) → But b H H' → SqT K H' v (List.map V.str (x :: r)) → Unl x r → r.length ≤ mo → (∀ y ∈ x :: r, y ∈ ts) → Q (.ref v) H'
theorem ok_walk {f fT fO : Addr} {fd fdT fdO : FuncData} (F : Fun K "_law_walk" "_law_walk" sLWalk f fd) (B : Bn mg) (GT : Gd P w K mg base 1 "_law_take" ["_law_box_here", "_law_below"] (spTake K) fT fdT)
    (GO : Gd P w K mg base 2 "_law_of" ["_law_box_here", "_law_some"] (spLOf K) fO fdO) : FnOk P w K mg base CX0 3 f fd ["_law_box_here", "_law_tags_here", "_law_most_so"] (spWalk K) := by
  refine F.ok scLWalk (fun vs H Q E h => ?_) (fun cdv A outer sh H vs Q E hr h => ?_)
  · obtain ⟨b, a, n, mo, ts, rfl, _⟩ := h
    rfl
  · obtain ⟨b, a, n, mo, ts, rfl, hb, hn, ha, hnd, ht2, ht8, hmo, q⟩ := h
    have hr1 : Room 1 _ := hr.mono (by decide)
    refine ⟨_, pss_cons (ps_set (i := 3) scLWalk.nd rfl (.inr rfl) (pe_lst (pa_cons (pe_g GO hr (by rfl) (pa_cons (pv 0) (pa_cons (pv 1) pa_nil))) pa_nil)))
      (pss_cons (ps_for PassesOwn.never rfl (pi_range1 (by rfl) B.range (pa_cons (pe_g GT hr1 (by rfl) (pa_cons (pv 0) (pa_cons (pe_op op_add (pv 2) pe_int) pa_nil))) pa_nil)) (pg_name (i := 4) scLWalk.nd rfl (.inl rfl))
        (pss_cons (ps_setLc (i := 5) (own := [("_law_tag", 7)]) (g := gName 7) (tt := tTest (tOp rNe (tVar 7) (tOp (rIxL K) (tVar 3) (tUn (rU fun i => .int (-i)) (tC (.int 1)))))) (by rfl) scLWalk.nd rfl rfl (sw_true rfl rfl rfl (by decide +kernel)) (pi_list (pv 1))
            (blkOk_by (own := [("_law_tag", 7)]) (N := ["_law_box_here", "_law_tags_here", "_law_most_so", "_law_row_so", "_law_turn", "_law_near", "_law_back_so", "_law_tag"]) (sc := defScope sLWalk) (by decide +kernel))
            (fun _ _ _ _ _ => pg_name (i := 7) scLWalk.nd rfl (.inl rfl)) (fun _ _ _ _ _ => pts_one (pt_cmpR op_ne (pv 7) (pe_ix ix_list (pv 3) (pe_un un_neg pe_int) (fun _ _ => rfl)) (nomark _))) (fun _ _ _ _ _ => pv 7))
        (C8.pss_cut (ps_set (i := 6) scLWalk.nd rfl (.inl rfl) (pe_and (pe_cmpR op_gt (pe_callB call_len_seq (by rfl) B.len PySem.boot_len (pa_cons (pv 3) pa_nil)) pe_int (nomark _)) (pe_one (pe_cmpR op_eq (pe_g GT hr1 (by rfl) (pa_cons (pv 0) (pa_cons pe_int pa_nil))) pe_int (nomark _)))))
        (pss_one (ps_expr (pe_bm PySem.F.plainAttrs_list PySem.F.slot_list_append PySem.F.type_list_append mt_append (pv 3) (pa_cons
          (pe_ifExp (pt_val (pv 6)) (pe_ix ix_list (pv 3) (pe_un un_neg pe_int) (fun _ _ => rfl)) (pe_g GO hr (by rfl) (pa_cons (pv 0) (pa_cons (pv 5) pa_nil)))) pa_nil)))))))
      (C8.pss_cut (ps_if (PW.pt (pw_and (pt_cmpR op_ne (pe_ix ix_list (pv 3) (pe_un un_neg pe_int) (fun _ _ => rfl)) (pe_ix ix_list (pv 3) pe_int (fun _ _ => rfl)) (nomark _)) (pw_and (pt_cmpR op_le (pe_callB call_len_seq (by rfl) B.len PySem.boot_len (pa_cons (pv 3) pa_nil)) (pv 2) (nomark _)) (pw_and1 (pt_cmpR op_eq (pe_g GT hr1 (by rfl) (pa_cons (pv 0) (pa_cons pe_int pa_nil))) pe_int (nomark _))))))
          (pss_one (ps_expr (pe_bm PySem.F.plainAttrs_list PySem.F.slot_list_append PySem.F.type_list_append mt_append (pv 3) (pa_cons (pe_ix ix_list (pv 3) pe_int (fun _ _ => rfl)) pa_nil)))) pss_nil)
      (pss_one (ps_ret (pe_callTy call_tuple_of (by rfl) B.tuple (by decide +kernel) (pa_cons (pv 3) pa_nil)))))), ?_⟩
    have nab := lst_ne_box ha hb
    refine ⟨_, rfl, _, rfl, b, a, n, ts, rfl, hb, by omega, ha, by omega, by omega, fun x H1 hx hb1 hB1 => ⟨(by show 1 ≤ sizeLine; decide), fun l nl => ?_⟩⟩
    have sl := same_upd (o := .lst [.str x]) nl
    obtain ⟨bo1, hbo1⟩ := hb1.some
    have nlb : l ≠ b := fun e => by rw [e, hbo1] at nl; cases nl
    have nlH : H l = none := hB1.free nl nlb
    have nla : l ≠ a := fun e => by rw [e, ha] at nlH; cases nlH
    refine ⟨_, rfl, _, rfl, _, _, rfl, rfl, b, n + 1, _, rfl, hb1.same sl, by omega, by omega, by omega, fun k H2 hb2 hB2 hk0 hk1 => ⟨k, rfl, by omega, by omega, ?_⟩⟩
    rw [show k.toNat = (k - 0).toNat by omega]
    refine for_range (lo := 0) (n := (k - 0).toNat) (fun i σ H' => ∃ (r : List Str) (x4 x5 x6 : Option V), σ = [some (.ref b), some (.ref a), some (.int mo), some (.ref l), x4, x5, x6, none] ∧ BoxAt H' b (n + 2 + 2 * i) ∧ But b H H' ∧ H' l = some (.lst ((x :: r).map V.str)) ∧ Unl x r ∧ r.length = i ∧ ∀ y ∈ x :: r, y ∈ ts)
      ⟨[], none, none, none, rfl, by rw [show n + 2 + 2 * ((0 : Nat) : Int) = n + 1 + 1 by omega]; exact hb2, (hB1.trans (Same.but sl)).trans hB2, hB2 _ _ nlb upd_same, (fun e he => by cases he), rfl, fun y hy => by rw [List.mem_singleton.mp hy]; exact hx⟩ ?_ ?_
    · rintro i σ H' hi ⟨r, x4, x5, x6, rfl, hb', hB, hl, hun, hrl, hin⟩
      have ha' := hB _ _ nab ha
      -- near
      refine ⟨_, rfl, a, rfl, ⟨_, SqL.of ha'⟩, fun D nD => ?_⟩
      refine lc_list (K := K) (a := a) (xs := ts.map V.str) (fun j H'' => Same H' H'' ∧ H'' D = some (.lst (((ts.take j).filter fun y => decide (y ≠ lst x r)).map V.str))) ⟨same_upd nD, upd_same⟩ (fun j H'' _ h => h.1.seq (SqL.of ha')) ?_ ?_
      · rintro j y H'' hj ⟨sJ, hD⟩
        obtain ⟨z, hz, rfl⟩ := str_at hj
        refine ⟨rfl, _, rfl, _, rfl, _, rfl, l, _, _, _, rfl, rfl, SqL.of (sJ _ _ hl), last_map x r, rfl, _, rfl, ?_⟩
        by_cases hzl : z = lst x r
        · rw [decide_eq_true (show V.str z = V.str (lst x r) by rw [hzl])]
          refine iteF ⟨sJ, ?_⟩
          rw [hD, take_snoc hz, List.filter_append, List.map_append]
          simp [hzl]
        · rw [decide_eq_false (str_ne hzl)]
          refine iteT ⟨_, rfl, _, hD, ?_, fun c o hc => ?_, ?_⟩
          · rw [List.length_map]
            have z1 := List.length_filter_le (fun y => decide (y ≠ lst x r)) (ts.take j)
            rw [List.length_take] at z1
            rw [sizeLine_eq]; omega
          · rw [upd_ne (ne_of_none hc nD)]
            exact sJ _ _ hc
          · rw [upd_same, take_snoc hz, List.filter_append, List.map_append, show ([z].filter fun y => decide (y ≠ lst x r)) = [z] by simp [hzl]]
            rfl
      rintro H2 ⟨s2, hD⟩
      rw [take_all (by rw [List.length_map]; exact Nat.le_refl _)] at hD
      have hnp := near_pos hnd ht2 (lst x r)
      have hnl := List.length_filter_le (fun y => decide (y ≠ lst x r)) ts
      have hnin : ∀ y ∈ ts.filter (fun y => decide (y ≠ lst x r)), y ∈ ts ∧ y ≠ lst x r := fun y hy => ⟨(List.mem_filter.mp hy).1, of_decide_eq_true (List.mem_filter.mp hy).2⟩
      generalize ts.filter (fun y => decide (y ≠ lst x r)) = near at hD hnp hnl hnin
      obtain ⟨bo', hbo'⟩ := hb'.some
      have nDb : D ≠ b := fun e => by rw [e, hbo'] at nD; cases nD
      have hl2 := s2 _ _ hl
      -- back
      refine ⟨fun σ' H3 => ∃ (bk : Bool) (x4 : Option V), σ' = [some (.ref b), some (.ref a), some (.int mo), some (.ref l), x4, some (.ref D), some (.bl bk), none] ∧ BoxAt H3 b (n + 2 + 2 * i + 1) ∧ But b H2 H3 ∧ (bk = true → r ≠ []), ?_, ?_⟩
      · refine ⟨_, rfl, l, _, rfl, .inl (SqL.of hl2), _, _, rfl, rfl, _, rfl, ?_⟩
        by_cases hr0 : r = []
        · rw [decide_eq_false (by rw [hr0]; simp)]
          exact iteF ⟨false, _, rfl, (hb'.same s2).le (by omega), But.refl _ _, fun z => by cases z⟩
        · rw [decide_eq_true (by
            have : 0 < r.length := List.length_pos_iff.mpr hr0
            simp only [List.map_cons, List.length_cons, List.length_map]
            omega)]
          refine iteT ⟨_, rfl, b, n + 2 + 2 * i, 3, rfl, hb'.same s2, by omega, by decide, by decide, fun j H3 hb3 hB3 _ _ => ⟨rfl, _, _, rfl, hb3, hB3, fun _ => hr0⟩⟩
      · rintro σ' H3 ⟨bk, x4', rfl, hb3, hB3, hbk⟩
        have hl3 := hB3 _ _ nlb hl2
        have hD3 := hB3 _ _ nDb hD
        have hBH := (hB.trans (Same.but s2)).trans hB3
        have done : ∀ (y : Str) (H4 : Hp), BoxAt H4 b (n + 2 + 2 * i + 2) → But b H H4 → H4 l = some (.lst ((x :: r).map V.str)) → y ∈ ts → y ≠ lst x r → ∃ (l' : Addr) (xs : List V) (y' : V), V.ref l = .ref l' ∧ [V.str y] = [y'] ∧ H4 l' = some (.lst xs) ∧ xs.length < sizeLine ∧
            ∃ (r' : List Str) (x4 x5 x6 : Option V), ([some (.ref b), some (.ref a), some (.int mo), some (.ref l), x4', some (.ref D), some (.bl bk), none] : L2.St) = [some (.ref b), some (.ref a), some (.int mo), some (.ref l), x4, x5, x6, none] ∧ BoxAt (upd H4 l' (.lst (xs ++ [y']))) b (n + 2 + 2 * ((i + 1 : Nat) : Int)) ∧ But b H (upd H4 l' (.lst (xs ++ [y']))) ∧ (upd H4 l' (.lst (xs ++ [y']))) l = some (.lst ((x :: r').map V.str)) ∧ Unl x r' ∧ r'.length = i + 1 ∧ ∀ z ∈ x :: r', z ∈ ts := by
          intro y H4 hb4 hB4 hl4 hy hyl
          refine ⟨l, _, _, rfl, rfl, hl4, ?_, r ++ [y], _, _, _, rfl, ?_, fun c o hc ho => ?_, ?_, hun.snoc hyl, by rw [List.length_append, hrl]; rfl, fun z hz => ?_⟩
          · rw [List.length_map, List.length_cons, sizeLine_eq]; omega
          · obtain ⟨b0, b1, b2, g1, g2, g3, g4⟩ := hb4
            exact ⟨b0, b1, b2, by rw [upd_ne nlb.symm]; exact g1, g2, g3, by omega⟩
          · rw [upd_ne (ne_of_none ho nlH)]
            exact hB4 _ _ hc ho
          · rw [upd_same, show x :: (r ++ [y]) = (x :: r) ++ [y] from rfl, List.map_append]
            rfl
          · rcases List.mem_cons.mp hz with z1 | z1
            · exact hin z (by rw [z1]; exact List.mem_cons_self)
            · rcases List.mem_append.mp z1 with z2 | z2
              · exact hin z (List.mem_cons_of_mem _ z2)
              · rw [List.mem_singleton.mp z2]; exact hy
        refine ⟨_, rfl, .inl ⟨rfl, _, SqL.of hl3⟩, _, rfl, bk, rfl, ?_⟩
        cases bk with
        | true =>
          obtain ⟨p, hp1, hp2, hp3⟩ := pen_of (x := x) (hbk rfl)
          refine iteT ⟨_, rfl, _, rfl, l, _, _, _, rfl, rfl, SqL.of hl3, hp1, ?_⟩
          exact done p H3 (hb3.le (by omega)) hBH hl3 (hin p hp3) (hun _ hp2)
        | false =>
          refine iteF ⟨_, rfl, _, rfl, b, D, n + 2 + 2 * i + 1, near, rfl, hb3, by omega, hD3, hnp, by omega, fun y H4 hy hb4 hB4 => ?_⟩
          exact done y H4 (hb4.le (by omega)) (hBH.trans hB4) (hB4 _ _ nlb hl3) (hnin y hy).1 (hnin y hy).2
    · rintro σ H' ⟨r, x4, x5, x6, rfl, hb', hB, hl, hun, hrl, hin⟩
      have at0 : atI ((x :: r).map V.str) 0 = some (.str x) := atI_nat (j := 0) rfl
      refine ⟨fun σ' H3 => ∃ (r' : List Str) (s1 s2 s3 : Option V), σ' = [some (.ref b), some (.ref a), some (.int mo), some (.ref l), s1, s2, s3, none] ∧ BoxAt H3 b (n + 100) ∧ But b H H3 ∧ H3 l = some (.lst ((x :: r').map V.str)) ∧ Unl x r' ∧ r'.length ≤ mo ∧ ∀ y ∈ x :: r', y ∈ ts, ?_, ?_⟩
      · have same : ∃ (r' : List Str) (s1 s2 s3 : Option V), ([some (.ref b), some (.ref a), some (.int mo), some (.ref l), x4, x5, x6, none] : L2.St) = [some (.ref b), some (.ref a), some (.int mo), some (.ref l), s1, s2, s3, none] ∧ BoxAt H' b (n + 100) ∧ But b H H' ∧ H' l = some (.lst ((x :: r').map V.str)) ∧ Unl x r' ∧ r'.length ≤ mo ∧ ∀ y ∈ x :: r', y ∈ ts :=
          ⟨r, _, _, _, rfl, hb'.le (by omega), hB, hl, hun, by omega, hin⟩
        refine ⟨_, rfl, _, rfl, l, _, _, _, rfl, rfl, SqL.of hl, last_map x r, _, rfl, l, _, _, _, rfl, rfl, SqL.of hl, at0, rfl, _, rfl, ?_⟩
        by_cases c1 : lst x r = x
        · rw [decide_eq_true (show V.str (lst x r) = V.str x by rw [c1])]
          exact iteF (iteF same)
        · rw [decide_eq_false (str_ne c1)]
          refine iteT ⟨_, rfl, l, _, rfl, .inl (SqL.of hl), _, rfl, _, _, rfl, rfl, _, rfl, ?_⟩
          by_cases c2 : (((x :: r).map V.str).length : Int) ≤ mo
          · rw [decide_eq_true c2]
            refine iteT ⟨_, rfl, b, n + 2 + 2 * ((k - 0).toNat : Int), 3, rfl, hb', by omega, by decide, by decide, fun j H3 hb3 hB3 _ _ => ⟨rfl, _, rfl, ?_⟩⟩
            have hl3 := hB3 _ _ nlb hl
            rw [List.length_map, List.length_cons] at c2
            by_cases c3 : j = 0
            · rw [decide_eq_true (by rw [c3])]
              refine iteT ⟨_, rfl, .inl ⟨rfl, _, SqL.of hl3⟩, _, rfl, l, _, _, _, rfl, rfl, SqL.of hl3, at0, l, _, _, rfl, rfl, hl3, ?_, r ++ [x], _, _, _, rfl, ?_, fun c o hc ho => ?_, ?_, hun.snoc (fun z => c1 z.symm), by rw [List.length_append, List.length_singleton]; omega, fun z hz => ?_⟩
              · rw [List.length_map, List.length_cons, sizeLine_eq]; omega
              · obtain ⟨b0, b1, b2, g1, g2, g3, g4⟩ := hb3
                exact ⟨b0, b1, b2, by rw [upd_ne nlb.symm]; exact g1, g2, g3, by omega⟩
              · rw [upd_ne (ne_of_none ho nlH)]
                exact hB3 _ _ hc (hB _ _ hc ho)
              · rw [upd_same, show x :: (r ++ [x]) = (x :: r) ++ [x] from rfl, List.map_append (l₁ := x :: r)]
                rfl
              · rcases List.mem_cons.mp hz with z1 | z1
                · exact hin z (by rw [z1]; exact List.mem_cons_self)
                · rcases List.mem_append.mp z1 with z2 | z2
                  · exact hin z (List.mem_cons_of_mem _ z2)
                  · rw [List.mem_singleton.mp z2]; exact hx
            · rw [decide_eq_false (fun z => c3 (V.int.inj z))]
              exact iteF ⟨r, _, _, _, rfl, hb3.le (by omega), hB.trans hB3, hl3, hun, by omega, hin⟩
          · rw [decide_eq_false c2]
            exact iteF (iteF same)
      · rintro σ' H3 ⟨r', s1, s2, s3, rfl, hb3, hB3, hl3, hun3, hr3, hin3⟩
        refine ⟨_, rfl, l, _, rfl, .inl ⟨SqL.of hl3, fun t nt => ?_⟩⟩
        have st := same_upd (o := .tup ((x :: r').map V.str)) nt
        exact q t x r' _ (hb3.same st) (hB3.trans (Same.but st)) (SqT.of upd_same) hun3 hr3 hin3
end
end K76
set_option Elab.async false
set_option linter.all false
set_option maxRecDepth 100000
/-! The law's own defs, fifth part: _law_same of equal data. -/
namespace K76
open PySem PySem.Spec PyProof.Rows L2
theorem walk_zipT {K : PySem.W.Frag} {a b : Addr} {xs ys : List V} {n : Nat} (hn : n = min xs.length ys.length) : Walk (RZ.ItzT K a b) n (fun H => SqT K H a xs ∧ SqT K H b ys) (YPair (fun i => xs[i]?) (fun i => ys[i]?)) := by
  subst hn
  refine ⟨fun i _ hi q => ?_, fun _ q => ⟨xs, ys, q.1, q.2, by omega⟩, fun i H v H' _ q y => ?_⟩
  · have h1 : i < xs.length := by omega
    have h2 : i < ys.length := by omega
    exact ⟨xs, ys, xs[i], ys[i], q.1, q.2, by simp [h1], by simp [h2]⟩
  · obtain ⟨T, x, z, h1, h2, h3, h4, h5⟩ := y
    exact ⟨T, x, z, h1, h2, h3, h4 xs q.1, h5 ys q.2⟩
def SmLv : Nat → PyData → Prop
  | 0, d => ∃ x, d = .str x
  | n + 1, d => ∃ ds, (d = .list ds ∨ d = .tuple ds) ∧ ds.length < 1000 ∧ ∀ x ∈ ds, SmLv n x
theorem sm_row (xs : List Str) (h : xs.length < 1000) : SmLv 1 (dRow xs) := ⟨_, .inr rfl, by rw [List.length_map]; exact h, fun d hd => by
  obtain ⟨x, _, rfl⟩ := List.mem_map.mp hd
  exact ⟨x, rfl⟩⟩
theorem sm_rows (xs : List (List Str)) (h : xs.length < 1000) (h2 : ∀ x ∈ xs, x.length < 1000) : SmLv 2 (.list (xs.map dRow)) := ⟨_, .inl rfl, by rw [List.length_map]; exact h, fun d hd => by
  obtain ⟨x, hx, rfl⟩ := List.mem_map.mp hd
  exact sm_row x (h2 x hx)⟩
theorem isi1 {K : PySem.W.Frag} {H : Hp} {Q : VK} {x : V} {t c : String} {b : Bool} (ty : TyX K H x (.type t)) (hk : kitB t c = some b) (q : Q (.bl b) H) : rIsi K [x, .ty c] H Q := ⟨x, .ty c, .type t, .type c, b, rfl, .ty _, ty, kit_ty hk, q⟩
def spSame (K : PySem.W.Frag) (n : Nat) : Sp := fun vs H Q _ => ∃ x y d, vs = [x, y] ∧ Dp K H x d ∧ Dp K H y d ∧ SmLv n d ∧ ∀ H', Same H H' → Q (.bl true) H'
section
variable {P : Program} {w : World} {K : PySem.W.Frag} {mg : Str → Option Value} {base : Heap}
theorem ok_same {f : Addr} {fd : FuncData} (F : Fun K "_law_same" "_law_same" sLSame f fd) (B : Bn mg) (bd : Binds K fd ["_law_got", "_law_due"] []) (gm : mg "_law_same" = some (.ref f)) : ∀ n, FnOk P w K mg base CX0 (n + 1) f fd ["_law_got", "_law_due"] (spSame K n) := by
  intro n
  induction n with
  | zero =>
    refine F.ok scLSame (fun vs H Q E h => ?_) (fun cdv A outer sh H vs Q E hr h => ?_)
    · obtain ⟨x, y, d, rfl, _⟩ := h
      rfl
    · obtain ⟨x, y, d, rfl, hx, hy, ⟨z, rfl⟩, q⟩ := h
      refine ⟨_, pss_cons (ps_if (pt_val (pe_callB call_isiT (by rfl) B.isi (by decide +kernel) (pa_cons (pv 1) (pa_cons (pe_tup (pa_cons (pe_bltn (v := .ty "list") (by rfl) B.list (by decide +kernel) rfl) (pa_cons (pe_bltn (v := .ty "tuple") (by rfl) B.tuple (by decide +kernel) rfl) pa_nil))) pa_nil)))) pss_never pss_nil)
        (pss_cons (ps_if (PW.pt (pw_or (pt_cmpR op_isN (pv 1) pe_non (nomark _)) (pw_or1 (pt_val (pe_callB call_isiT (by rfl) B.isi (by decide +kernel) (pa_cons (pv 1) (pa_cons (pe_tup (pa_cons (pe_bltn (v := .ty "bool") (by rfl) B.bool (by decide +kernel) rfl) (pa_cons (pe_bltn (v := .ty "str") (by rfl) B.str (by decide +kernel) rfl) pa_nil))) pa_nil)))))))
          (pss_one (ps_ret (pe_and (pe_cmpR op_eq (pv 0) (pv 1) (nomark _)) (pe_and (pe_cmpR op_eq (pe_callB call_isi (by rfl) B.isi (by decide +kernel) (pa_cons (pv 0) (pa_cons (pe_bltn (v := .ty "bool") (by rfl) B.bool (by decide +kernel) rfl) pa_nil))) (pe_callB call_isi (by rfl) B.isi (by decide +kernel) (pa_cons (pv 1) (pa_cons (pe_bltn (v := .ty "bool") (by rfl) B.bool (by decide +kernel) rfl) pa_nil))) (nomark _))
            (pe_one (pe_cmpR op_eq (pe_cmpR op_isN (pv 0) pe_non (nomark _)) (pe_cmpR op_isN (pv 1) pe_non (nomark _)) (nomark _))))))) pss_nil)
        (pss_one ps_never)), ?_⟩
      have ex := dp_str hx
      have ey := dp_str hy
      subst ex
      subst ey
      refine ⟨_, rfl, (by show 2 ≤ sizeLine; decide), fun T nT => ?_⟩
      have sT := same_upd (o := .tup [.ty "list", .ty "tuple"]) nT
      refine ⟨_, T, [.ty "list", .ty "tuple"], .type "str", [.type "list", .type "tuple"], false, rfl, upd_same, .cons (.ty _) (.cons (.ty _) .nil), .base (.str z), any_lt (by decide +kernel) (by decide +kernel), false, rfl, ?_⟩
      refine iteF ⟨_, rfl, rfl, false, rfl, ?_⟩
      refine iteF ⟨_, rfl, (by show 2 ≤ sizeLine; decide), fun T2 nT2 => ?_⟩
      have sT2 := same_upd (o := .tup [.ty "bool", .ty "str"]) nT2
      have any_bs : PySem.W.kitAny K (.type "str") [.type "bool", .type "str"] = some true := kitAny_cons (b := false) (kit_ty (by decide +kernel)) (fun _ => kitAny_cons (b := true) (kit_ty (by decide +kernel)) (fun e => by cases e) (fun _ => rfl)) (fun e => by cases e)
      refine ⟨_, T2, [.ty "bool", .ty "str"], .type "str", [.type "bool", .type "str"], true, rfl, upd_same, .cons (.ty _) (.cons (.ty _) .nil), .base (.str z), any_bs, true, rfl, ?_⟩
      refine iteT ⟨_, rfl, _, rfl, rfl, _, rfl, ?_⟩
      rw [decide_eq_true rfl]
      refine iteT ⟨_, rfl, _, _, .type "str", .type "bool", false, rfl, .ty _, .base (.str z), kit_ty (by decide +kernel), _, rfl, _, _, .type "str", .type "bool", false, rfl, .ty _, .base (.str z), kit_ty (by decide +kernel), rfl, _, rfl, ?_⟩
      refine iteT ⟨_, rfl, rfl, _, rfl, rfl, rfl, ?_⟩
      exact q _ (sT.trans sT2)
  | succ n ih =>
    refine F.ok scLSame (fun vs H Q E h => ?_) (fun cdv A outer sh H vs Q E hr h => ?_)
    · obtain ⟨x, y, d, rfl, _⟩ := h
      rfl
    · obtain ⟨x, y, d, rfl, hx, hy, ⟨ds, hd, hlen, hds⟩, q⟩ := h
      refine ⟨_, pss_cons (ps_if (pt_val (pe_callB call_isiT (by rfl) B.isi (by decide +kernel) (pa_cons (pv 1) (pa_cons (pe_tup (pa_cons (pe_bltn (v := .ty "list") (by rfl) B.list (by decide +kernel) rfl) (pa_cons (pe_bltn (v := .ty "tuple") (by rfl) B.tuple (by decide +kernel) rfl) pa_nil))) pa_nil))))
          (pss_cons (ps_if (PW.pt (pw_or (pt_cmpR op_ne (pe_callB call_isi (by rfl) B.isi (by decide +kernel) (pa_cons (pv 0) (pa_cons (pe_bltn (v := .ty "list") (by rfl) B.list (by decide +kernel) rfl) pa_nil))) (pe_callB call_isi (by rfl) B.isi (by decide +kernel) (pa_cons (pv 1) (pa_cons (pe_bltn (v := .ty "list") (by rfl) B.list (by decide +kernel) rfl) pa_nil))) (nomark _))
              (pw_or1 (pt_cmpR op_ne (pe_callB call_isi (by rfl) B.isi (by decide +kernel) (pa_cons (pv 0) (pa_cons (pe_bltn (v := .ty "tuple") (by rfl) B.tuple (by decide +kernel) rfl) pa_nil))) (pe_callB call_isi (by rfl) B.isi (by decide +kernel) (pa_cons (pv 1) (pa_cons (pe_bltn (v := .ty "tuple") (by rfl) B.tuple (by decide +kernel) rfl) pa_nil))) (nomark _))))) (pss_one ps_never) pss_nil)
          (pss_one (ps_ret (pe_and (pe_cmpR op_eq (pe_callB call_len_seq (by rfl) B.len PySem.boot_len (pa_cons (pv 0) pa_nil)) (pe_callB call_len_seq (by rfl) B.len PySem.boot_len (pa_cons (pv 1) pa_nil)) (nomark _))
            (pe_one (pe_callB (cr_all rfl) (by rfl) B.all (by decide +kernel) (pa_cons (pe_lc (own := [("_law_mine", 2), ("_law_its", 3)]) (g := gTup K 2 (gCons (gName 2) (gCons (gName 3) gNil))) (tt := tYes) (by rfl) scLSame.nd (RZ.pi_zipA (by rfl) B.zip (pa_cons (pv 0) (pa_cons (pv 1) pa_nil)))
              (blkOk_by (own := [("_law_mine", 2), ("_law_its", 3)]) (N := ["_law_got", "_law_due", "_law_mine", "_law_its"]) (sc := defScope sLSame) (by decide +kernel))
              (fun _ _ _ _ _ => pg_tup rfl (pgs_cons (pg_name (i := 2) scLSame.nd rfl (.inl rfl)) (pgs_cons (pg_name (i := 3) scLSame.nd rfl (.inl rfl)) pgs_nil))) (fun _ _ _ _ _ => pts_nil)
              (fun _ _ _ _ _ => pe_call ih hr (by rfl) gm F.kp bd .nil pass0 (pa_cons (pv 2) (pa_cons (pv 3) pa_nil)))) pa_nil))))))) pss_nil) pss_never, ?_⟩
      -- what both are
      have both : ∃ (a b : Addr) (xs ys : List V) (t : String), x = .ref a ∧ y = .ref b ∧ DpAll K H xs ds ∧ DpAll K H ys ds ∧ ((t = "list" ∧ SqL K H a xs ∧ SqL K H b ys) ∨ (t = "tuple" ∧ SqT K H a xs ∧ SqT K H b ys)) := by
        rcases hd with rfl | rfl
        · obtain ⟨a, xs, rfl, h1, h2⟩ := dp_lst hx
          obtain ⟨b, ys, rfl, h3, h4⟩ := dp_lst hy
          exact ⟨a, b, xs, ys, _, rfl, rfl, h2, h4, .inl ⟨rfl, h1, h3⟩⟩
        · obtain ⟨a, xs, rfl, h1, h2⟩ := dp_tup hx
          obtain ⟨b, ys, rfl, h3, h4⟩ := dp_tup hy
          exact ⟨a, b, xs, ys, _, rfl, rfl, h2, h4, .inr ⟨rfl, h1, h3⟩⟩
      obtain ⟨a, b, xs, ys, t, rfl, rfl, hxs, hys, hk⟩ := both
      have hxl := dpAll_len hxs
      have hyl := dpAll_len hys
      refine ⟨_, rfl, (by show 2 ≤ sizeLine; decide), fun T nT => ?_⟩
      have sT := same_upd (o := .tup [.ty "list", .ty "tuple"]) nT
      have tyx : ∀ {H'}, Same H H' → TyX K H' (.ref a) (.type t) ∧ TyX K H' (.ref b) (.type t) := fun {H'} s => by
        rcases hk with ⟨rfl, h1, h2⟩ | ⟨rfl, h1, h2⟩
        · exact ⟨tyx_seqL (s.seq h1), tyx_seqL (s.seq h2)⟩
        · exact ⟨tyx_seqT (Same.tup' s h1), tyx_seqT (Same.tup' s h2)⟩
      have any1 : PySem.W.kitAny K (.type t) [.type "list", .type "tuple"] = some true := by
        rcases hk with ⟨rfl, _⟩ | ⟨rfl, _⟩
        · exact any_list
        · exact any_lt (by decide +kernel) (by decide +kernel)
      obtain ⟨bL, bT, hbL, hbT⟩ : ∃ bL bT, PySem.W.kitOne K (.type t) (.type "list") = some bL ∧ PySem.W.kitOne K (.type t) (.type "tuple") = some bT := by
        rcases hk with ⟨rfl, _⟩ | ⟨rfl, _⟩
        · exact ⟨true, false, kit_ty (by decide +kernel), kit_ty (by decide +kernel)⟩
        · exact ⟨false, true, kit_ty (by decide +kernel), kit_ty (by decide +kernel)⟩
      refine ⟨_, T, [.ty "list", .ty "tuple"], .type t, [.type "list", .type "tuple"], true, rfl, upd_same, .cons (.ty _) (.cons (.ty _) .nil), (tyx sT).2, any1, true, rfl, ?_⟩
      refine iteT ⟨_, rfl, _, _, .type t, .type "list", bL, rfl, .ty _, (tyx sT).1, hbL, _, rfl, _, _, .type t, .type "list", bL, rfl, .ty _, (tyx sT).2, hbL, rfl, _, rfl, ?_⟩
      rw [decide_eq_true rfl]
      refine iteF ⟨_, rfl, _, _, .type t, .type "tuple", bT, rfl, .ty _, (tyx sT).1, hbT, _, rfl, _, _, .type t, .type "tuple", bT, rfl, .ty _, (tyx sT).2, hbT, rfl, _, rfl, ?_⟩
      rw [decide_eq_true rfl]
      have hq : ∀ {H'}, Same H H' → (SqL K H' a xs ∧ SqL K H' b ys) ∨ (SqT K H' a xs ∧ SqT K H' b ys) := fun {H'} s => by
        rcases hk with ⟨_, h1, h2⟩ | ⟨_, h1, h2⟩
        · exact .inl ⟨s.seq h1, s.seq h2⟩
        · exact .inr ⟨Same.tup' s h1, Same.tup' s h2⟩
      have hq1 : ∀ {H'}, Same H H' → (SqL K H' a xs ∨ SqT K H' a xs) ∧ (SqL K H' b ys ∨ SqT K H' b ys) := fun {H'} s => by
        rcases hq s with ⟨h1, h2⟩ | ⟨h1, h2⟩
        · exact ⟨.inl h1, .inl h2⟩
        · exact ⟨.inr h1, .inr h2⟩
      refine iteF ⟨_, rfl, a, _, rfl, (hq1 sT).1, _, rfl, b, _, rfl, (hq1 sT).2, rfl, _, rfl, ?_⟩
      rw [show decide (V.int (xs.length : Int) = V.int (ys.length : Int)) = true from decide_eq_true (by rw [hxl, hyl])]
      refine iteT ⟨_, rfl, _, rfl, a, b, xs, ys, rfl, ?_⟩
      have turn : ∀ (D : Addr) (H1 : Hp), H1 D = none → Same H H1 → ∀ i (v : V) (H' H'' : Hp), i < min xs.length ys.length → (Same H1 H' ∧ H' D = some (.lst (List.replicate i (V.bl true)))) → YPair (fun i => xs[i]?) (fun i => ys[i]?) i H' v H'' →
          ∃ (T : Addr) (z1 z2 : V) (e : PyData), v = .ref T ∧ H'' T = some (.tup [z1, z2]) ∧ Dp K H'' z1 e ∧ Dp K H'' z2 e ∧ SmLv n e ∧ ∀ H3, Same H'' H3 → H3 D = some (.lst (List.replicate i (V.bl true))) ∧ Same H1 (upd H3 D (.lst (List.replicate i (V.bl true) ++ [V.bl true]))) := by
        intro D H1 nD sH1 i v H' H'' hi ⟨sH, hD⟩ ⟨T', z1, z2, hv, nT', hH'', e1, e2⟩
        subst hH''
        obtain ⟨e, he, hz1⟩ := dpAll_at hxs e1
        obtain ⟨e', he', hz2⟩ := dpAll_at hys e2
        rw [he] at he'
        cases he'
        have sT' := same_upd (o := .tup [z1, z2]) nT'
        have sa := (sH1.trans sH).trans sT'
        refine ⟨T', z1, z2, e, hv, upd_same, dp_same sa _ _ hz1, dp_same sa _ _ hz2, hds e (List.mem_of_getElem? he), fun H3 s3 => ⟨s3 _ _ (sT' _ _ hD), fun b' o hb' => ?_⟩⟩
        rw [upd_ne (ne_of_none hb' nD)]
        exact s3 _ _ (sT' _ _ (sH _ _ hb'))
      have key : ∀ (J : It), Walk J (min xs.length ys.length) (fun H' => (SqL K H' a xs ∧ SqL K H' b ys) ∨ (SqT K H' a xs ∧ SqT K H' b ys)) (YPair (fun i => xs[i]?) (fun i => ys[i]?)) → True := fun _ _ => trivial
      rcases hk with ⟨_, h1, h2⟩ | ⟨_, h1, h2⟩
      · refine .inl ⟨sT.seq h1, sT.seq h2, fun D nD => ?_⟩
        refine lc_it (walk_zip rfl) (fun i H' => Same (upd H T (.tup [.ty "list", .ty "tuple"])) H' ∧ H' D = some (.lst (List.replicate i (V.bl true)))) ⟨same_upd nD, upd_same⟩ (fun i H' _ h => ⟨(sT.trans h.1).seq h1, (sT.trans h.1).seq h2⟩) ?_ ?_
        · intro i v H' H'' hi hP hY
          obtain ⟨T', z1, z2, e, rfl, hT', d1, d2, hsm, hfin⟩ := turn D _ nD sT i v H' H'' hi hP hY
          refine ⟨T', _, rfl, SqT.of hT', rfl, _, _, rfl, _, _, rfl, rfl, rfl, _, rfl, _, rfl, z1, z2, e, rfl, d1, d2, hsm, fun H3 s3 => ?_⟩
          obtain ⟨f1, f2⟩ := hfin H3 s3
          exact ⟨_, f1, by rw [List.length_replicate, sizeLine_eq]; omega, f2, by rw [upd_same, List.replicate_succ']⟩
        · rintro H' ⟨sH, hD⟩
          refine ⟨D, List.replicate (min xs.length ys.length) true, rfl, SqL.of (by rw [hD, List.map_replicate]), ?_⟩
          rw [show (List.replicate (min xs.length ys.length) true).all id = true by rw [List.all_replicate]; simp]
          exact q _ (sT.trans sH)
      · refine .inr ⟨Same.tup' sT h1, Same.tup' sT h2, fun D nD => ?_⟩
        refine lc_it (walk_zipT rfl) (fun i H' => Same (upd H T (.tup [.ty "list", .ty "tuple"])) H' ∧ H' D = some (.lst (List.replicate i (V.bl true)))) ⟨same_upd nD, upd_same⟩ (fun i H' _ h => ⟨Same.tup' (sT.trans h.1) h1, Same.tup' (sT.trans h.1) h2⟩) ?_ ?_
        · intro i v H' H'' hi hP hY
          obtain ⟨T', z1, z2, e, rfl, hT', d1, d2, hsm, hfin⟩ := turn D _ nD sT i v H' H'' hi hP hY
          refine ⟨T', _, rfl, SqT.of hT', rfl, _, _, rfl, _, _, rfl, rfl, rfl, _, rfl, _, rfl, z1, z2, e, rfl, d1, d2, hsm, fun H3 s3 => ?_⟩
          obtain ⟨f1, f2⟩ := hfin H3 s3
          exact ⟨_, f1, by rw [List.length_replicate, sizeLine_eq]; omega, f2, by rw [upd_same, List.replicate_succ']⟩
        · rintro H' ⟨sH, hD⟩
          refine ⟨D, List.replicate (min xs.length ys.length) true, rfl, SqL.of (by rw [hD, List.map_replicate]), ?_⟩
          rw [show (List.replicate (min xs.length ys.length) true).all id = true by rw [List.all_replicate]; simp]
          exact q _ (sT.trans sH)
end
end K76
set_option Elab.async false
set_option linter.all false
set_option maxRecDepth 100000
/-! The law's own defs, sixth part: equality of data, _law_tally, _law_less. -/
namespace K76
open PySem PySem.Spec PyProof.Rows L2
/-! ### equality of data -/
theorem eqv_strs : ∀ xs ys : List Str, PyData.eqvAll (xs.map .str) (ys.map .str) = decide (xs = ys)
  | [], [] => by simp [PyData.eqvAll]
  | [], _ :: _ => by simp [PyData.eqvAll]
  | _ :: _, [] => by simp [PyData.eqvAll]
  | x :: xs, y :: ys => by
    rw [List.map_cons, List.map_cons, PyData.eqvAll, eqv_strs xs ys]
    by_cases e : x = y
    · subst e
      simp [PyData.eqv]
    · simp [PyData.eqv, e]
theorem eqv_row (xs ys : List Str) : PyData.eqv (dRow xs) (dRow ys) = decide (xs = ys) := by
  show PyData.eqv (.tuple (xs.map .str)) (.tuple (ys.map .str)) = _
  rw [PyData.eqv]
  exact eqv_strs xs ys
theorem eqv_pair (e f : Str × Str) : PyData.eqv (dPair e) (dPair f) = decide (e = f) := by
  have h := eqv_row [e.1, e.2] [f.1, f.2]
  rw [show dPair e = dRow [e.1, e.2] from rfl, show dPair f = dRow [f.1, f.2] from rfl, h]
  apply decide_eq_decide.mpr
  constructor
  · intro z
    injection z with z1 z2
    injection z2 with z2 _
    exact Prod.ext z1 z2
  · rintro rfl
    rfl
theorem eqv_tri (t u : Tri) : PyData.eqv (dTri t) (dTri u) = decide (t = u) := by
  show PyData.eqv (.tuple [.str t.1, .str t.2.1, .int t.2.2]) (.tuple [.str u.1, .str u.2.1, .int u.2.2]) = _
  simp only [PyData.eqv, PyData.eqvAll]
  obtain ⟨a, b, c⟩ := t
  obtain ⟨a', b', c'⟩ := u
  by_cases h1 : a = a' <;> by_cases h2 : b = b' <;> by_cases h3 : c = c' <;> simp [h1, h2, h3]
theorem eqv_nilL (ds : List PyData) : PyData.eqv (.list ds) (.list []) = ds.isEmpty := by
  rw [PyData.eqv]
  cases ds <;> simp [PyData.eqvAll]
theorem eqv_nilT (ds : List PyData) : PyData.eqv (.tuple ds) (.tuple []) = ds.isEmpty := by
  rw [PyData.eqv]
  cases ds <;> simp [PyData.eqvAll]
/-! ### what may be compared -/
theorem lay_all : ∀ {ds : List PyData}, (∀ d ∈ ds, d.canLay0 = true) → PyData.canLayAll0 ds = true
  | [], _ => by simp [PyData.canLayAll0]
  | d :: ds, h => by rw [PyData.canLayAll0, h d List.mem_cons_self, lay_all fun e he => h e (List.mem_cons_of_mem _ he)]; rfl
theorem depth_all : ∀ {ds : List PyData} {n : Nat}, (∀ d ∈ ds, d.depth ≤ n) → PyData.depthAll ds ≤ n
  | [], _, _ => by simp [PyData.depthAll]
  | d :: ds, n, h => by
    have h1 := h d List.mem_cons_self
    have h2 := depth_all fun e he => h e (List.mem_cons_of_mem _ he)
    rw [PyData.depthAll]
    omega
theorem lay_str {x : Str} (h : Sk x) : (PyData.str x).canLay0 = true := by
  rw [PyData.canLay0]
  exact h
theorem lay_row {xs : List Str} (h : ∀ x ∈ xs, Sk x) : (dRow xs).canLay0 = true := by
  show PyData.canLay0 (.tuple (xs.map .str)) = true
  rw [PyData.canLay0]
  exact lay_all fun d hd => by
    obtain ⟨x, hx, rfl⟩ := List.mem_map.mp hd
    exact lay_str (h x hx)
def SkT (t : Tri) : Prop := Sk t.1 ∧ Sk t.2.1
theorem lay_tri {t : Tri} (h : SkT t) : (dTri t).canLay0 = true := by
  show PyData.canLay0 (.tuple [.str t.1, .str t.2.1, .int t.2.2]) = true
  simp only [PyData.canLay0, PyData.canLayAll0]
  rw [show PyData.strOk t.1 = true from h.1, show PyData.strOk t.2.1 = true from h.2]
  rfl
theorem depth_tri (t : Tri) : (dTri t).depth ≤ 2 := by
  show PyData.depth (.tuple [.str t.1, .str t.2.1, .int t.2.2]) ≤ 2
  simp [PyData.depth, PyData.depthAll]
theorem sh_of {d : PyData} (h1 : d.canLay0 = true) (h2 : d.depth ≤ 64) : SeqAt.shaped d = true := by
  unfold SeqAt.shaped
  rw [h1, decide_eq_true h2]
  rfl
theorem sh_row {xs : List Str} (h : ∀ x ∈ xs, Sk x) : SeqAt.shaped (dRow xs) = true := sh_of (lay_row h) (by have := depth_row xs; omega)
theorem sh_pair {e : Str × Str} (h : Sk e.1 ∧ Sk e.2) : SeqAt.shaped (dPair e) = true := sh_row (xs := [e.1, e.2]) fun x hx => by
  rcases List.mem_cons.mp hx with z | z
  · rw [z]; exact h.1
  · rw [List.mem_singleton.mp z]; exact h.2
theorem sh_tri {t : Tri} (h : SkT t) : SeqAt.shaped (dTri t) = true := sh_of (lay_tri h) (by have := depth_tri t; omega)
theorem sh_list {ds : List PyData} {n : Nat} (h1 : ∀ d ∈ ds, d.canLay0 = true) (h2 : ∀ d ∈ ds, d.depth ≤ n) (h3 : n ≤ 62) : SeqAt.shaped (.list ds) = true := sh_of (by rw [PyData.canLay0]; exact lay_all h1) (by
  rw [PyData.depth]
  have := depth_all h2
  omega)
theorem sh_tup {ds : List PyData} {n : Nat} (h1 : ∀ d ∈ ds, d.canLay0 = true) (h2 : ∀ d ∈ ds, d.depth ≤ n) (h3 : n ≤ 62) : SeqAt.shaped (.tuple ds) = true := sh_of (by rw [PyData.canLay0]; exact lay_all h1) (by
  rw [PyData.depth]
  have := depth_all h2
  omega)
theorem sh_nilL : SeqAt.shaped (.list []) = true := sh_list (n := 0) (fun d hd => by simp at hd) (fun d hd => by simp at hd) (by decide)
theorem sh_nilT : SeqAt.shaped (.tuple []) = true := sh_tup (n := 0) (fun d hd => by simp at hd) (fun d hd => by simp at hd) (by decide)
/-! ### the order of pairs -/
theorem str_cps {x y : Str} (h : x.cps.toList = y.cps.toList) : x = y := PySem.W.str_of_cps h
theorem ord_pair {a b : Str × Str} (h1 : PySem.W.dataLt (dPair a) (dPair b) = false) (h2 : PySem.W.dataLt (dPair b) (dPair a) = false) : a = b := by
  have e := (listOrd itemOrd).total (PySem.W.keyToks (dPair a)) (PySem.W.keyToks (dPair b)) h1 h2
  have e' : PySem.W.keyToks (dPair a) = PySem.W.keyToks (dPair b) := e
  have k : ∀ c : Str × Str, PySem.W.keyToks (dPair c) = [.inl 1, .inr c.1.cps.toList, .inl 1, .inr c.2.cps.toList, .inl 0] := fun c => by
    show PySem.W.keyToks (.tuple [.str c.1, .str c.2]) = _
    simp [PySem.W.keyToks, PySem.W.keyToksAll]
  rw [k, k] at e'
  injection e' with _ e'
  injection e' with e1 e'
  injection e' with _ e'
  injection e' with e2 _
  exact Prod.ext (str_cps (Sum.inr.inj e1)) (str_cps (Sum.inr.inj e2))
end K76
set_option Elab.async false
set_option linter.all false
set_option maxRecDepth 100000
/-! The law's own defs, seventh part: _law_tally, _law_less. -/
namespace K76
open PySem PySem.Spec PyProof.Rows L2
theorem hu65 {k : Nat} {A : Around} (hr : Room k A) : A.units + 65 < cLine := by
  have := hr.un
  omega
theorem hu64 {k : Nat} {A : Around} (hr : Room k A) : A.units + 64 < cLine := by
  have := hr.un
  omega
/-- a test, then what follows, with a word between them -/
def tCutT (t : TT) : TT := fun σ H Q => ∃ Mid : Bool → Hp → Prop, t σ H Mid ∧ ∀ b H', Mid b H' → Q b H'
theorem pt_cut {X : Cx} {c : Expr} {t : TT} (h : PT X c t) : PT X c (tCutT t) := by
  refine ⟨fun pins s σ H Q I hq => ?_⟩
  obtain ⟨Mid, hm, hu⟩ := hq
  exact thn (h.run pins s σ H Mid I hm) fun b s1 ⟨H1, I1, q1⟩ => ⟨H1, I1, hu b H1 q1⟩
/-! ### the tally by neighbours -/
/-- a row of steps in order: the same ones stand together -/
def Ordd (es : List (Str × Str)) : Prop := es.Pairwise fun x y => PySem.W.dataLt (dPair y) (dPair x) = false
/-- what is found behind the first i -/
structure Part (E es : List (Str × Str)) (i : Nat) (ts : List Tri) : Prop where
  nd : (ts.map fun t => (t.1, t.2.1)).Nodup
  ct : ∀ t ∈ ts, t.2.2 = (E.count (t.1, t.2.1) : Int) ∧ (t.1, t.2.1) ∈ es.take i
  all : ∀ e ∈ es.take i, ∃ t ∈ ts, (t.1, t.2.1) = e
  last : ∀ t, ts.getLast? = some t → ∃ j, i = j + 1 ∧ es[j]? = some (t.1, t.2.1)
  none : ts = [] → i = 0
theorem ordd_new {es : List (Str × Str)} (h : Ordd es) {j : Nat} {z own : Str × Str} (hz : es[j]? = some z) (ho : es[j + 1]? = some own) (hne : z ≠ own) : own ∉ es.take (j + 1) := by
  intro hm
  obtain ⟨k, hk⟩ := List.mem_iff_getElem?.mp hm
  have hkl : k < j + 1 := by
    have := (List.getElem?_eq_some_iff.mp hk).1
    rw [List.length_take] at this
    omega
  rw [List.getElem?_take_of_lt hkl] at hk
  have hlj := (List.getElem?_eq_some_iff.mp hz).1
  have hlo := (List.getElem?_eq_some_iff.mp ho).1
  have hlk := (List.getElem?_eq_some_iff.mp hk).1
  have ez := (List.getElem?_eq_some_iff.mp hz).2
  have eo := (List.getElem?_eq_some_iff.mp ho).2
  have ek := (List.getElem?_eq_some_iff.mp hk).2
  by_cases hkj : k = j
  · subst hkj
    rw [hz] at hk
    exact hne (Option.some.inj hk)
  · have h1 := List.pairwise_iff_getElem.mp h k j hlk hlj (by omega)
    have h2 := List.pairwise_iff_getElem.mp h j (j + 1) hlj hlo (by omega)
    rw [ek, ez] at h1
    rw [ez, eo] at h2
    exact hne (ord_pair h1 h2)
theorem part_zero (E es : List (Str × Str)) : Part E es 0 [] := ⟨List.nodup_nil, fun t ht => by simp at ht, fun e he => by simp at he, fun t ht => by simp at ht, fun _ => rfl⟩
theorem part_same {E es : List (Str × Str)} {i : Nat} {ts : List Tri} {own : Str × Str} {t : Tri} (h : Part E es i ts) (ho : es[i]? = some own) (hl : ts.getLast? = some t) (he : (t.1, t.2.1) = own) : Part E es (i + 1) ts := by
  have htm : t ∈ ts := List.mem_of_getLast? hl
  refine ⟨h.nd, fun u hu => ⟨(h.ct u hu).1, ?_⟩, fun e hee => ?_, fun u hu => ?_, fun z => ?_⟩
  · rw [take_snoc ho]
    exact List.mem_append.mpr (.inl (h.ct u hu).2)
  · rw [take_snoc ho] at hee
    rcases List.mem_append.mp hee with z | z
    · exact h.all e z
    · rw [List.mem_singleton.mp z]
      exact ⟨t, htm, he⟩
  · rw [hl] at hu
    cases Option.some.inj hu
    exact ⟨i, rfl, by rw [he]; exact ho⟩
  · rw [z] at htm
    simp at htm
theorem part_new {E es : List (Str × Str)} {i : Nat} {ts : List Tri} {own : Str × Str} (hO : Ordd es) (h : Part E es i ts) (ho : es[i]? = some own) (hl : ∀ t, ts.getLast? = some t → (t.1, t.2.1) ≠ own) : Part E es (i + 1) (ts ++ [(own.1, own.2, (E.count own : Int))]) := by
  have hnew : own ∉ es.take i := by
    cases ht : ts.getLast? with
    | none =>
      have e0 := h.none (List.getLast?_eq_none_iff.mp ht)
      subst e0
      simp
    | some t =>
      obtain ⟨j, rfl, hj⟩ := h.last t ht
      exact ordd_new hO hj ho (hl t ht)
  refine ⟨?_, fun u hu => ?_, fun e he => ?_, fun u hu => ?_, fun z => ?_⟩
  · rw [List.map_append, List.nodup_append]
    refine ⟨h.nd, by simp, fun a ha b hb => ?_⟩
    obtain ⟨u, hu, rfl⟩ := List.mem_map.mp ha
    have hb' : b = own := by simpa using hb
    rw [hb']
    exact fun z => hnew (z ▸ (h.ct u hu).2)
  · rw [take_snoc ho]
    rcases List.mem_append.mp hu with z | z
    · exact ⟨(h.ct u z).1, List.mem_append.mpr (.inl (h.ct u z).2)⟩
    · rw [List.mem_singleton.mp z]
      exact ⟨rfl, List.mem_append.mpr (.inr (List.mem_singleton.mpr rfl))⟩
  · rw [take_snoc ho] at he
    rcases List.mem_append.mp he with z | z
    · obtain ⟨t, ht, et⟩ := h.all e z
      exact ⟨t, List.mem_append.mpr (.inl ht), et⟩
    · rw [List.mem_singleton.mp z]
      exact ⟨_, List.mem_append.mpr (.inr (List.mem_singleton.mpr rfl)), rfl⟩
  · rw [List.getLast?_append] at hu
    cases Option.some.inj (show some _ = some u from by simpa using hu)
    exact ⟨i, rfl, ho⟩
  · simp at z
theorem part_done {E es : List (Str × Str)} {ts : List Tri} (pm : es.Perm E) (h : Part E es es.length ts) : Tally ts E :=
  ⟨h.nd, fun t ht => ⟨(h.ct t ht).1, pm.mem_iff.mp (by have := (h.ct t ht).2; rwa [List.take_length] at this)⟩, fun e he => h.all e (by rw [List.take_length]; exact pm.mem_iff.mpr he)⟩
section
variable {P : Program} {w : World} {K : PySem.W.Frag} {mg : Str → Option Value} {base : Heap}
def SkP (E : List (Str × Str)) : Prop := ∀ e ∈ E, Sk e.1 ∧ Sk e.2
def spTally (K : PySem.W.Frag) : Sp := fun vs H Q _ => ∃ a x r, vs = [.ref a] ∧ SqT K H a (List.map V.str (x :: r)) ∧ r.length ≤ 100 ∧ SkP (stp x r) ∧ ∀ v ts H', Same H H' → Dp K H' v (dTris ts) → Tally ts (stp x r) → Q v H'
theorem ok_tally {f : Addr} {fd : FuncData} {k : Nat} (F : Fun K "_law_tally" "_law_tally" sLTally f fd) (B : Bn mg) : FnOk P w K mg base CX0 (k + 1) f fd ["_law_row_so"] (spTally K) := by
  refine F.ok scLTally (fun vs H Q E h => ?_) (fun cdv A outer sh H vs Q E hr h => ?_)
  · obtain ⟨a, x, r, rfl, _⟩ := h
    rfl
  · obtain ⟨a, x, r, rfl, hT, hl, hsk, q⟩ := h
    refine ⟨_, pss_cons (ps_set (i := 1) scLTally.nd rfl (.inl rfl) (pe_listZip rfl (by rfl) B.list (by rfl) B.zip (pa_cons (pv 0) (pa_cons (pe_slice sl_tupA (pv 0) (po_some pe_int) po_none) pa_nil))))
      (pss_cons (ps_set (i := 2) scLTally.nd rfl (.inl rfl) (pe_lst pa_nil))
      (pss_cons (ps_for PassesOwn.never rfl (pi_list (pe_callB cr_sortedData (by rfl) B.sorted (by decide +kernel) (pa_cons (pv 1) pa_nil))) (pg_name (i := 3) scLTally.nd rfl (.inl rfl))
        (pss_one (ps_if (pt_cut (PW.pt (pw_or (pt_cmpR (op_eqD (hu64 hr)) (pv 2) (pe_lst pa_nil) (nomark _)) (pw_or1 (pt_cmpR (op_neD (hu64 hr)) (pe_slice sl_tupA (pe_ix ix_list (pv 2) (pe_un un_neg pe_int) (fun _ _ => rfl)) po_none (po_some pe_int)) (pv 3) (nomark _))))))
          (pss_one (ps_expr (pe_bm PySem.F.plainAttrs_list PySem.F.slot_list_append PySem.F.type_list_append mt_append (pv 2) (pa_cons
            (pe_op op_catA (pv 3) (pe_tup (pa_cons (pe_bm PySem.F.plainAttrs_list PySem.F.slot_list_count PySem.F.type_list_count (mt_countD (hu65 hr)) (pv 1) (pa_cons (pv 3) pa_nil)) pa_nil))) pa_nil)))) pss_nil)))
      (pss_one (ps_ret (pe_callTy call_tuple_of (by rfl) B.tuple (by decide +kernel) (pa_cons (pv 2) pa_nil)))))), ?_⟩
    have hE : (x :: r).zip ((x :: r).drop 1) = stp x r := by
      rw [show (x :: r).drop 1 = r from rfl, stp_zip]
    have hEl : (stp x r).length ≤ 100 := by rw [stp_length]; exact hl
    generalize hES : stp x r = E at hE hEl hsk q
    refine ⟨_, rfl, _, rfl, 1, rfl, noPart (sl_any hT fun p H1 s1 h1 => ?_)⟩
    rw [show cutV ((x :: r).map V.str) (some (1 : Int)) none = ((x :: r).drop 1).map V.str by rw [show (1 : Int) = ((1 : Nat) : Int) from rfl, cut_from, List.map_drop]] at h1
    refine ⟨a, p, _, _, rfl, Same.tup' s1 hT, h1, fun H2 pl pa s2 npl hpl z => ?_⟩
    have hA2 := zipd_pairs (K := K) z
    rw [hE] at hA2
    obtain ⟨bs, e1, e2, e3⟩ := map_dpAll hA2
    refine ⟨Nat.zero_le _, fun l nl => ?_⟩
    have sl := same_upd (o := .lst []) nl
    have hpl2 := sl _ _ hpl
    have hbs : ∀ b ∈ bs, ∃ e ∈ E, b.2 = dPair e := fun b hb => by
      have : b.2 ∈ bs.map (·.2) := List.mem_map.mpr ⟨b, hb, rfl⟩
      rw [e2] at this
      obtain ⟨e, he, h⟩ := List.mem_map.mp this
      exact ⟨e, he, h.symm⟩
    refine ⟨_, rfl, pl, bs, rfl, by rw [e1]; exact SqL.of hpl2, fun b hb => dp_same sl _ _ (e3 b hb), fun d1 h1 d2 h2 => ?_, .inl fun d1 h1 => ?_, fun b hb => ?_, fun cs pc pm ord npc => ?_⟩
    · obtain ⟨b1, hb1, rfl⟩ := List.mem_map.mp h1
      obtain ⟨b2, hb2, rfl⟩ := List.mem_map.mp h2
      obtain ⟨f1, _, g1⟩ := hbs b1 hb1
      obtain ⟨f2, _, g2⟩ := hbs b2 hb2
      rw [g1, g2]
      exact alike_pair f1 f2
    · obtain ⟨b1, hb1, rfl⟩ := List.mem_map.mp h1
      obtain ⟨f1, _, g1⟩ := hbs b1 hb1
      rw [g1]
      exact ⟨_, _, rfl⟩
    · obtain ⟨f1, _, g1⟩ := hbs b hb
      rw [g1]
      have z1 := depth_pair f1
      have z2 := hr.un
      show (A.deeper (envOfC "_law_tally" (defScope sLTally) sh.heap.objs.size f cdv)).units + 2 + _ < cLine
      omega
    have pm2 := pm.map (fun b : V × PyData => b.2)
    rw [e2] at pm2
    obtain ⟨es, g1, g2⟩ := perm_pairs pm2
    have hO : Ordd es := by
      have z1 : (cs.map (fun b : V × PyData => b.2)).Pairwise fun x y => PySem.W.dataLt y x = false := List.pairwise_map.mpr ord
      rw [g1, List.pairwise_map] at z1
      exact z1
    have sc := same_upd (o := .lst (cs.map (fun x => x.1))) npc
    have hA4 : DpAll K (upd (upd H2 l (.lst [])) pc (.lst (cs.map (fun x => x.1)))) (cs.map (fun x => x.1)) (es.map dPair) := by
      rw [← g1]
      exact dpAll_map (fun b : V × PyData => b.1) (fun b => b.2) cs fun b hb => dp_same (sl.trans sc) _ _ (e3 b (pm.mem_iff.mp hb))
    generalize hcs : cs.map (fun x => x.1) = ks at *
    have hkl : ks.length = es.length := by rw [dpAll_len hA4, List.length_map]
    have hpcl : pc ≠ l := fun e => by rw [e, upd_same] at npc; cases npc
    have hpll : pl ≠ l := fun e => by rw [e] at hpl; rw [hpl] at nl; cases nl
    have nlH : H l = none := (s1.trans s2).free nl
    have hA2' : DpAll K (upd (upd H2 l (.lst [])) pc (.lst ks)) (pa.map V.ref) (E.map dPair) := dpAll_same (sl.trans sc) _ _ hA2
    refine ⟨pc, rfl, ⟨_, SqL.of upd_same⟩, L2.for_list (K := K) (a := pc) (xs := ks) (fun i σ H' => ∃ (vs : List V) (ts : List Tri) (x3 : Option V), σ = [some (.ref a), some (.ref pl), some (.ref l), x3] ∧ Same H H' ∧ Fix (upd (upd H2 l (.lst [])) pc (.lst ks)) H' ∧ H' pl = some (.lst (pa.map V.ref)) ∧ H' pc = some (.lst ks) ∧ H' l = some (.lst vs) ∧ DpAll K H' vs (ts.map dTri) ∧ vs.length ≤ i ∧ Part E es i ts)
      ⟨[], [], none, rfl, ((s1.trans s2).trans sl).trans sc, Fix.refl _, sc _ _ hpl2, upd_same, sc _ _ upd_same, .nil, Nat.le_refl _, part_zero E es⟩ (fun i σ H' _ h => ?_) ?_ ?_⟩
    · obtain ⟨_, _, _, _, _, _, _, hh, _⟩ := h
      exact SqL.of hh
    · rintro i y σ H' hy ⟨vs, ts, x3, rfl, sH, fH, hplH, hpcH, hlH, hdp, hvl, hP⟩
      obtain ⟨e, ep, hei, hem, rfl, hep⟩ := pair_at hA4 hy
      have hepH := fH.tup hep
      have hske := hsk e (g2.mem_iff.mp hem)
      have hskt : ∀ t ∈ ts, SkT t := fun t ht => hsk _ (g2.mem_iff.mp (List.mem_of_mem_take (hP.ct t ht).2))
      have hil := (List.getElem?_eq_some_iff.mp hei).1
      have hesl := g2.length_eq
      refine ⟨fun b H5 => Same H' H5 ∧ (b = false ↔ ∃ t, ts.getLast? = some t ∧ (t.1, t.2.1) = e), ?_, ?_⟩
      · refine ⟨_, rfl, Nat.zero_le _, fun l0 n0 => ?_⟩
        have s0 := same_upd (o := .lst []) n0
        refine ⟨.list (ts.map dTri), .list [], .lst (SqL.of (s0 _ _ hlH)) (dpAll_same s0 _ _ hdp), .lst (SqL.of upd_same) .nil, sh_list (n := 2) (fun d hd => ?_) (fun d hd => ?_) (by decide), sh_nilL, _, rfl, ?_⟩
        · obtain ⟨t, ht, rfl⟩ := List.mem_map.mp hd
          exact lay_tri (hskt t ht)
        · obtain ⟨t, ht, rfl⟩ := List.mem_map.mp hd
          exact depth_tri t
        rw [eqv_nilL]
        cases hts : ts.getLast? with
        | none =>
          have e0 := List.getLast?_eq_none_iff.mp hts
          subst e0
          exact iteT ⟨s0, ⟨fun z => (by cases z), fun ⟨t, z, _⟩ => (by cases z)⟩⟩
        | some t =>
          obtain ⟨ti, rfl⟩ := List.getLast?_eq_some_iff.mp hts
          rw [show ((ti ++ [t]).map dTri).isEmpty = false by simp]
          -- the last one's value
          have hdp' := hdp
          rw [List.map_append] at hdp'
          have hvlast : ∃ vi v, vs = vi ++ [v] ∧ Dp K H' v (dTri t) := by
            have hlv := dpAll_len hdp
            obtain ⟨v, hv, hdv⟩ := dpAll_at' hdp (i := ti.length) (d := dTri t) (by rw [List.map_append]; simp)
            have hvl2 : vs.length = ti.length + 1 := by rw [hlv]; simp
            refine ⟨vs.take ti.length, v, ?_, hdv⟩
            have hlt : ti.length < vs.length := by omega
            rw [← take_snoc hv, List.take_of_length_le (by omega)]
          obtain ⟨vi, v, rfl, hdv⟩ := hvlast
          obtain ⟨tp, rfl, htp⟩ := dp_tri hdv
          refine iteF ⟨_, rfl, _, rfl, l, _, _, _, rfl, rfl, SqL.of (s0 _ _ hlH), atI_last vi _, 2, rfl, sl_any (Same.tup' s0 htp) fun p2 H6 s6 h6 => ?_⟩
          rw [show cutV [V.str t.1, .str t.2.1, .int t.2.2] none (some (2 : Int)) = [V.str t.1, .str t.2.1] by rw [show (2 : Int) = ((2 : Nat) : Int) from rfl, cut_to]; rfl] at h6
          refine ⟨_, rfl, dPair (t.1, t.2.1), dPair e, pair_dp (e := (t.1, t.2.1)) h6, pair_dp (Same.tup' (s0.trans s6) hepH), sh_pair (hskt t (by simp)), sh_pair hske, _, rfl, s0.trans s6, ?_⟩
          rw [eqv_pair]
          constructor
          · intro z
            exact ⟨t, rfl, by simpa using z⟩
          · rintro ⟨t', z1, z2⟩
            cases Option.some.inj z1
            rw [z2]
            simp
      · rintro b H5 ⟨s5, hb⟩
        cases b with
        | false =>
          obtain ⟨t, ht1, ht2⟩ := hb.1 rfl
          exact iteF ⟨vs, ts, _, rfl, sH.trans s5, fH.trans (Same.fix s5), s5 _ _ hplH, s5 _ _ hpcH, s5 _ _ hlH, dpAll_same s5 _ _ hdp, by omega, part_same hP hei ht1 ht2⟩
        | true =>
          have hl5 := s5 _ _ hlH
          have f5 := fH.trans (Same.fix s5)
          have hds : DpAll K H5 (pa.map V.ref) (E.map dPair) := dpAll_fix f5 _ _ (noLs_all fun d hd => by
            obtain ⟨e', _, rfl⟩ := List.mem_map.mp hd
            exact noL_row [e'.1, e'.2]) hA2'
          refine iteT ⟨_, rfl, .inl ⟨rfl, _, SqL.of hl5⟩, _, rfl, _, rfl, .inl ⟨rfl, _, SqL.of (s5 _ _ hplH)⟩, _, rfl, pl, _, _, _, dPair e, rfl, rfl, SqL.of (s5 _ _ hplH), hds, pair_dp (Same.tup' s5 hepH), fun d hd => ?_, sh_pair hske, (by show 1 ≤ sizeLine; decide), fun T nT => ?_⟩
          · obtain ⟨e', he', rfl⟩ := List.mem_map.mp hd
            exact sh_pair (hsk e' he')
          have hcnt : (E.map dPair).countP (fun d => PyData.eqv d (dPair e)) = E.count e := by
            rw [List.countP_map, List.count]
            apply List.countP_congr
            intro e' _
            show PyData.eqv (dPair e') (dPair e) = true ↔ (e' == e) = true
            rw [eqv_pair]
            simp
          have sT := same_upd (o := .tup [.int ((E.map dPair).countP (fun d => PyData.eqv d (dPair e)) : Nat)]) nT
          refine cat_any (Same.tup' (s5.trans sT) hepH) (SqT.of upd_same) (by show 3 ≤ sizeLine; decide) fun p7 H7 s7 h7 => ?_
          rw [hcnt] at h7
          have s57 := (s5.trans sT).trans s7
          have hl7 := s57 _ _ hlH
          have fx : Fix H7 (upd H7 l (.lst (vs ++ [.ref p7]))) := fix_upd hl7
          refine ⟨l, vs, _, rfl, rfl, hl7, by rw [sizeLine_eq]; omega, vs ++ [.ref p7], ts ++ [(e.1, e.2, (E.count e : Int))], _, rfl, fun c o hc => ?_, fH.trans ((Same.fix s57).trans fx), ?_, ?_, upd_same, ?_, by rw [List.length_append]; exact Nat.succ_le_succ hvl, part_new hO hP hei fun t ht1 ht2 => ?_⟩
          · rw [upd_ne (ne_of_none hc nlH)]
            exact s57 _ _ (sH _ _ hc)
          · rw [upd_ne hpll]
            exact s57 _ _ hplH
          · rw [upd_ne hpcl]
            exact s57 _ _ hpcH
          · rw [List.map_append]
            exact dpAll_app (dpAll_fix fx _ _ (noL_tris ts) (dpAll_same s57 _ _ hdp)) (.cons (dp_fix fx _ _ rfl (tri_dp (t := (e.1, e.2, (E.count e : Int))) h7)) .nil)
          · exact absurd (hb.2 ⟨t, ht1, ht2⟩) (by decide)
    · rintro σ H' ⟨vs, ts, x3, rfl, sH, fH, hplH, hpcH, hlH, hdp, hvl, hP⟩
      rw [hkl] at hP
      refine ⟨_, rfl, l, vs, rfl, .inl ⟨SqL.of hlH, fun t nt => ?_⟩⟩
      have st := same_upd (o := .tup vs) nt
      exact q (.ref t) ts _ (sH.trans st) (.tup (SqT.of upd_same) (dpAll_same st _ _ hdp)) (part_done g2 hP)
end
end K76
set_option Elab.async false
set_option linter.all false
set_option maxRecDepth 100000
/-! Plain mathematics: the search through all journeys. -/
namespace K76
open PySem
def fac : Nat → Nat
  | 0 => 1
  | n + 1 => (n + 1) * fac n
theorem fac_pos : ∀ n, 0 < fac n
  | 0 => Nat.one_pos
  | n + 1 => Nat.mul_pos (Nat.succ_pos n) (fac_pos n)
abbrev Ent := List Str × List Tri
/-- a trail and what is left -/
def EntOk (s : Str) (E : List (Str × Str)) (e : Ent) : Prop := ∃ r G, e.1 = s :: r ∧ Tally e.2 G ∧ (stp s r ++ G).Perm E
def Jn (s : Str) (E : List (Str × Str)) (q : List Str) : Prop := ∃ r, q = s :: r ∧ (stp s r).Perm E
def wt (E : List (Str × Str)) (e : Ent) : Nat := fac (E.length + 2 - e.1.length)
def wts (E : List (Str × Str)) (R : List Ent) : Nat := (R.map (wt E)).sum
theorem wts_app (E : List (Str × Str)) (R S : List Ent) : wts E (R ++ S) = wts E R + wts E S := by
  unfold wts
  rw [List.map_append, List.sum_append]
structure DInv (s : Str) (E : List (Str × Str)) (F : List (List Str)) (R : List Ent) : Prop where
  ok : ∀ e ∈ R, EntOk s E e
  fd : ∀ q ∈ F, Jn s E q
  all : ∀ q, Jn s E q → q ∈ F ∨ ∃ e ∈ R, e.1 <+: q
  sz : F.length + wts E R ≤ fac (E.length + 1)
theorem dinv_start {s : Str} {E : List (Str × Str)} {ts : List Tri} (T : Tally ts E) : DInv s E [] [([s], ts)] := by
  refine ⟨fun e he => ?_, fun q hq => by simp at hq, fun q hq => .inr ?_, ?_⟩
  · rw [List.mem_singleton.mp he]
    exact ⟨[], E, rfl, T, List.Perm.refl _⟩
  · obtain ⟨r, rfl, _⟩ := hq
    exact ⟨_, List.mem_singleton.mpr rfl, ⟨r, rfl⟩⟩
  · show 0 + (wt E ([s], ts) + 0) ≤ _
    unfold wt
    show 0 + (fac (E.length + 2 - 1) + 0) ≤ _
    have : E.length + 2 - 1 = E.length + 1 := by omega
    rw [this]
    omega
theorem dinv_end {s : Str} {E : List (Str × Str)} {F : List (List Str)} (h : DInv s E F []) (q : List Str) : q ∈ F ↔ ∃ r, q = s :: r ∧ (stp s r).Perm E := by
  constructor
  · exact fun z => h.fd q z
  · intro z
    rcases h.all q z with z | ⟨e, he, _⟩
    · exact z
    · simp at he
/-- the ways on from e, as far as ws -/
structure Ways (s : Str) (E : List (Str × Str)) (e : Ent) (ws : List Tri) (cs : List Ent) : Prop where
  ok : ∀ c ∈ cs, EntOk s E c ∧ c.1.length = e.1.length + 1
  all : ∀ t ∈ ws, ∀ l, e.1.getLast? = some l → t.1 = l → ∃ c ∈ cs, c.1 = e.1 ++ [t.2.1]
  le : cs.length ≤ ws.length
theorem ways_nil (s : Str) (E : List (Str × Str)) (e : Ent) : Ways s E e [] [] := ⟨fun c hc => by simp at hc, fun t ht => by simp at ht, Nat.le_refl _⟩
theorem ways_skip {s : Str} {E : List (Str × Str)} {e : Ent} {ws : List Tri} {cs : List Ent} (h : Ways s E e ws cs) {t : Tri} (ht : ∀ l, e.1.getLast? = some l → t.1 ≠ l) : Ways s E e (ws ++ [t]) cs := by
  refine ⟨h.ok, fun u hu l hl hul => ?_, by rw [List.length_append]; have := h.le; omega⟩
  rcases List.mem_append.mp hu with z | z
  · exact h.all u z l hl hul
  · rw [List.mem_singleton.mp z] at hul
    exact absurd hul (ht l hl)
theorem ways_go {s : Str} {E : List (Str × Str)} {e : Ent} {ws : List Tri} {cs : List Ent} (h : Ways s E e ws cs) {t : Tri} {ts' : List Tri} {r : List Str} {G : List (Str × Str)} (he : e.1 = s :: r) (hp : (stp s r ++ G).Perm E) (hG : (t.1, t.2.1) ∈ G) (hl : t.1 = lst s r)
    (T : Tally ts' (G.erase (t.1, t.2.1))) : Ways s E e (ws ++ [t]) (cs ++ [(e.1 ++ [t.2.1], ts')]) := by
  refine ⟨fun c hc => ?_, fun u hu l hul hut => ?_, by rw [List.length_append, List.length_append]; have := h.le; exact Nat.succ_le_succ this⟩
  · rcases List.mem_append.mp hc with z | z
    · exact h.ok c z
    · rw [List.mem_singleton.mp z]
      refine ⟨⟨r ++ [t.2.1], G.erase (t.1, t.2.1), by rw [he]; rfl, T, ?_⟩, by rw [List.length_append]; rfl⟩
      rw [stp_append, List.append_assoc]
      refine List.Perm.trans ?_ hp
      refine List.Perm.append_left _ ?_
      show ((lst s r, t.2.1) :: G.erase (t.1, t.2.1)).Perm G
      rw [← hl]
      exact (List.perm_cons_erase hG).symm
  · rcases List.mem_append.mp hu with z | z
    · obtain ⟨c, hc, ec⟩ := h.all u z l hul hut
      exact ⟨c, List.mem_append.mpr (.inl hc), ec⟩
    · rw [List.mem_singleton.mp z]
      exact ⟨_, List.mem_append.mpr (.inr (List.mem_singleton.mpr rfl)), rfl⟩
theorem tally_nil {G : List (Str × Str)} (T : Tally [] G) : G = [] := by
  cases G with
  | nil => rfl
  | cons e G =>
    obtain ⟨t, ht, _⟩ := T.all e List.mem_cons_self
    simp at ht
theorem sum_const {α : Type} {f : α → Nat} {n : Nat} : ∀ {l : List α}, (∀ x ∈ l, f x = n) → (l.map f).sum = l.length * n
  | [], _ => by simp
  | x :: l, h => by
    rw [List.map_cons, List.sum_cons, h x List.mem_cons_self, sum_const fun y hy => h y (List.mem_cons_of_mem _ hy), List.length_cons, Nat.succ_mul, Nat.add_comm]
theorem dfs_step {s : Str} {E : List (Str × Str)} {F : List (List Str)} {Ri : List Ent} {e : Ent} {cs : List Ent} {ws : List Tri} (h : DInv s E F (Ri ++ [e])) (hw : Ways s E e ws cs) (hwp : ws.Perm e.2) :
    DInv s E (if e.2 = [] then F ++ [e.1] else F) (Ri ++ cs) ∧ wts E (Ri ++ cs) < wts E (Ri ++ [e]) := by
  obtain ⟨r, G, h1, T, hp⟩ := h.ok e (List.mem_append.mpr (.inr (List.mem_singleton.mpr rfl)))
  have hlen := hp.length_eq
  rw [List.length_append, stp_length] at hlen
  have hel : e.1.length = r.length + 1 := by rw [h1]; rfl
  have hwt : wt E e = fac (G.length + 1) := by
    unfold wt
    congr 1
    omega
  have hcw : wts E cs = cs.length * fac G.length := by
    refine sum_const fun c hc => ?_
    unfold wt
    congr 1
    have := (hw.ok c hc).2
    omega
  have hcl : cs.length ≤ G.length := by
    have := hw.le
    have := hwp.length_eq
    have := T.len
    omega
  have hlt : wts E cs < wt E e := by
    rw [hwt, hcw]
    show _ < (G.length + 1) * fac G.length
    exact Nat.mul_lt_mul_of_pos_right (by omega) (fac_pos _)
  have hone : wts E [e] = wt E e := by
    unfold wts
    simp
  refine ⟨⟨fun c hc => ?_, fun q hq => ?_, fun q hq => ?_, ?_⟩, by rw [wts_app, wts_app, hone]; omega⟩
  · rcases List.mem_append.mp hc with z | z
    · exact h.ok c (List.mem_append.mpr (.inl z))
    · exact (hw.ok c z).1
  · by_cases hn : e.2 = []
    · rw [if_pos hn] at hq
      rcases List.mem_append.mp hq with z | z
      · exact h.fd q z
      · rw [List.mem_singleton.mp z]
        rw [hn] at T
        rw [tally_nil T, List.append_nil] at hp
        exact ⟨r, h1, hp⟩
    · rw [if_neg hn] at hq
      exact h.fd q hq
  · have sub : ∀ x, x ∈ F → x ∈ (if e.2 = [] then F ++ [e.1] else F) := fun x hx => by
      by_cases hn : e.2 = []
      · rw [if_pos hn]; exact List.mem_append.mpr (.inl hx)
      · rw [if_neg hn]; exact hx
    rcases h.all q hq with z | ⟨c, hc, hpre⟩
    · exact .inl (sub q z)
    · rcases List.mem_append.mp hc with z | z
      · exact .inr ⟨c, List.mem_append.mpr (.inl z), hpre⟩
      · rw [List.mem_singleton.mp z] at hpre
        obtain ⟨t, ht⟩ := hpre
        obtain ⟨r', hr', hpr⟩ := hq
        have er : r' = r ++ t := by
          rw [h1, hr'] at ht
          injection ht with _ ht
          exact ht.symm
        cases t with
        | nil =>
          rw [List.append_nil] at er
          rw [er] at hpr
          have hg : G = [] := by
            apply List.eq_nil_of_length_eq_zero
            have := hpr.length_eq
            rw [stp_length] at this
            omega
          have hn : e.2 = [] := by
            cases he2 : e.2 with
            | nil => rfl
            | cons u us =>
              have := (T.ct u (by rw [he2]; exact List.mem_cons_self)).2
              rw [hg] at this
              simp at this
          rw [if_pos hn]
          left
          rw [← ht, List.append_nil]
          exact List.mem_append.mpr (.inr (List.mem_singleton.mpr rfl))
        | cons y t =>
          right
          rw [er, stp_append] at hpr
          have hg : (stp (lst s r) (y :: t)).Perm G := (List.perm_append_left_iff _).mp (hpr.trans hp.symm)
          have hm : (lst s r, y) ∈ G := hg.mem_iff.mp List.mem_cons_self
          obtain ⟨u, hu, eu⟩ := T.all _ hm
          have eu1 : u.1 = lst s r := congrArg Prod.fst eu
          have eu2 : u.2.1 = y := congrArg Prod.snd eu
          obtain ⟨c, hc, ec⟩ := hw.all u (hwp.mem_iff.mpr hu) (lst s r) (by rw [h1, lst_getLast]) eu1
          refine ⟨c, List.mem_append.mpr (.inr hc), ⟨t, ?_⟩⟩
          rw [ec, eu2, ← ht, List.append_assoc]
          rfl
  · have hz := h.sz
    rw [wts_app, hone] at hz
    rw [wts_app]
    by_cases hn : e.2 = []
    · rw [if_pos hn, List.length_append, List.length_singleton]
      omega
    · rw [if_neg hn]
      omega
end K76
set_option Elab.async false
set_option linter.all false
set_option maxRecDepth 100000
/-! The law's own defs, eighth part: _law_less, _law_all. -/
namespace K76
open PySem PySem.Spec PyProof.Rows L2
def lessT (u t : Tri) : Tri := (t.1, t.2.1, t.2.2 - (if decide (t = u) = true then 1 else 0))
def lessTs (u : Tri) (ts : List Tri) : List Tri := (ts.map (lessT u)).filter fun t => decide (t.2.2 > 0)
theorem nd_key {ts : List Tri} (nd : (ts.map fun t => (t.1, t.2.1)).Nodup) : ∀ {t u : Tri}, t ∈ ts → u ∈ ts → (t.1, t.2.1) = (u.1, u.2.1) → t = u := by
  induction ts with
  | nil => intro t u ht; simp at ht
  | cons x ts ih =>
    intro t u ht hu e
    rw [List.map_cons, List.nodup_cons] at nd
    rcases List.mem_cons.mp ht with z1 | z1 <;> rcases List.mem_cons.mp hu with z2 | z2
    · rw [z1, z2]
    · subst z1
      exact absurd (List.mem_map.mpr ⟨u, z2, e.symm⟩) nd.1
    · subst z2
      exact absurd (List.mem_map.mpr ⟨t, z1, e⟩) nd.1
    · exact ih nd.2 z1 z2 e
theorem less_count {ts : List Tri} {E : List (Str × Str)} {u t : Tri} (T : Tally ts E) (hu : u ∈ ts) (ht : t ∈ ts) : (lessT u t).2.2 = ((E.erase (u.1, u.2.1)).count (t.1, t.2.1) : Int) := by
  show t.2.2 - (if decide (t = u) = true then 1 else 0) = _
  rw [(T.ct t ht).1, List.count_erase]
  by_cases e : t = u
  · subst e
    have hp : 0 < E.count (t.1, t.2.1) := List.count_pos_iff.mpr (T.ct t ht).2
    rw [if_pos (decide_eq_true rfl), if_pos (beq_self_eq_true _)]
    omega
  · rw [if_neg (by simpa using e), if_neg]
    · omega
    · intro z
      exact e (nd_key T.nd ht hu (eq_of_beq z).symm)
theorem less_tally {ts : List Tri} {E : List (Str × Str)} {u : Tri} (T : Tally ts E) (hu : u ∈ ts) : Tally (lessTs u ts) (E.erase (u.1, u.2.1)) := by
  have sub : ((lessTs u ts).map fun t => (t.1, t.2.1)).Sublist (ts.map fun t => (t.1, t.2.1)) := by
    have h1 : (lessTs u ts).Sublist (ts.map (lessT u)) := List.filter_sublist ..
    have h2 := h1.map fun t : Tri => (t.1, t.2.1)
    rw [List.map_map] at h2
    exact h2
  refine ⟨sub.nodup T.nd, fun t' ht' => ?_, fun e he => ?_⟩
  · obtain ⟨h1, h2⟩ := List.mem_filter.mp ht'
    obtain ⟨t, ht, rfl⟩ := List.mem_map.mp h1
    have h3 := less_count T hu ht
    have h2 : (lessT u t).2.2 > 0 := of_decide_eq_true h2
    refine ⟨h3, List.count_pos_iff.mp ?_⟩
    show 0 < (E.erase (u.1, u.2.1)).count (t.1, t.2.1)
    omega
  · obtain ⟨t, ht, rfl⟩ := T.all e (List.mem_of_mem_erase he)
    have h3 := less_count T hu ht
    have hp : 0 < (E.erase (u.1, u.2.1)).count (t.1, t.2.1) := List.count_pos_iff.mpr he
    exact ⟨lessT u t, List.mem_filter.mpr ⟨List.mem_map.mpr ⟨t, ht, rfl⟩, decide_eq_true (by omega)⟩, rfl⟩
theorem lessTs_snoc (u t : Tri) (ts : List Tri) : lessTs u (ts ++ [t]) = if (lessT u t).2.2 > 0 then lessTs u ts ++ [lessT u t] else lessTs u ts := by
  unfold lessTs
  rw [List.map_append, List.filter_append]
  by_cases h : (lessT u t).2.2 > 0
  · rw [if_pos h]
    congr 1
    simp [h]
  · rw [if_neg h]
    simp [h]
section
variable {P : Program} {w : World} {K : PySem.W.Frag} {mg : Str → Option Value} {base : Heap}
def spLess (K : PySem.W.Frag) : Sp := fun vs H Q _ => ∃ (v : V) (b : Addr) (ts : List Tri) (u : Tri) (E : List (Str × Str)), vs = [v, .ref b] ∧ Dp K H v (dTris ts) ∧ SqT K H b [.str u.1, .str u.2.1, .int u.2.2] ∧ Tally ts E ∧ u ∈ ts ∧ SkP E ∧ E.length ≤ 100 ∧
  ∀ v' ts' H', Same H H' → Dp K H' v' (dTris ts') → Tally ts' (E.erase (u.1, u.2.1)) → Q v' H'
theorem ok_less {f : Addr} {fd : FuncData} {k : Nat} (F : Fun K "_law_less" "_law_less" sLLess f fd) (B : Bn mg) : FnOk P w K mg base CX0 (k + 1) f fd ["_law_rows_so", "_law_own"] (spLess K) := by
  refine F.ok scLLess (fun vs H Q E h => ?_) (fun cdv A outer sh H vs Q E hr h => ?_)
  · obtain ⟨v, b, ts, u, E, rfl, _⟩ := h
    rfl
  · obtain ⟨v, b, ts, u, E, rfl, hD, hb, T, hu, hsk, hEl, q⟩ := h
    obtain ⟨a, xs, rfl, hS, hA⟩ := dp_tup hD
    refine ⟨_, pss_cons (ps_set (i := 2) scLLess.nd rfl (.inl rfl) (pe_lst pa_nil))
      (pss_cons (ps_for PassesOwn.never rfl (pi_tup (pv 0)) (pg_name (i := 3) scLLess.nd rfl (.inl rfl))
        (pss_cons (ps_set (i := 4) scLLess.nd rfl (.inl rfl) (pe_op op_sub (pe_ix ix_tup (pv 3) pe_int (fun _ _ => rfl)) (pe_callTy call_int1 (by rfl) B.int (by decide +kernel) (pa_cons (pe_cmpR (op_eqD (hu64 hr)) (pv 3) (pv 1) (nomark _)) pa_nil))))
        (pss_one (ps_if (pt_cmpR op_gt (pv 4) pe_int (nomark _)) (pss_one (ps_expr (pe_bm PySem.F.plainAttrs_list PySem.F.slot_list_append PySem.F.type_list_append mt_append (pv 2) (pa_cons
          (pe_tup (pa_cons (pe_ix ix_tup (pv 3) pe_int (fun _ _ => rfl)) (pa_cons (pe_ix ix_tup (pv 3) pe_int (fun _ _ => rfl)) (pa_cons (pv 4) pa_nil)))) pa_nil)))) pss_nil))))
      (pss_one (ps_ret (pe_callTy call_tuple_of (by rfl) B.tuple (by decide +kernel) (pa_cons (pv 2) pa_nil))))), ?_⟩
    refine ⟨Nat.zero_le _, fun l nl => ?_⟩
    have sl := same_upd (o := .lst []) nl
    have hTl := T.len
    refine ⟨_, rfl, a, rfl, ⟨_, Same.tup' sl hS⟩, L2.for_tup (K := K) (a := a) (xs := xs) (fun i σ H' => ∃ (vs : List V) (x3 x4 : Option V), σ = [some (.ref a), some (.ref b), some (.ref l), x3, x4] ∧ Same H H' ∧ H' l = some (.lst vs) ∧ DpAll K H' vs ((lessTs u (ts.take i)).map dTri) ∧ vs.length ≤ i)
      ⟨[], none, none, rfl, sl, upd_same, .nil, Nat.le_refl _⟩ (fun i σ H' _ h => ?_) ?_ ?_⟩
    · obtain ⟨_, _, _, _, hs, _⟩ := h
      exact Same.tup' hs hS
    · rintro i y σ H' hy ⟨vs, x3, x4, rfl, sH, hlH, hdp, hvl⟩
      obtain ⟨t, p, hti, ht, rfl, hp⟩ := tri_at hA hy
      have hpH := Same.tup' sH hp
      have at0 : atI [V.str t.1, .str t.2.1, .int t.2.2] 0 = some (.str t.1) := atI_nat (j := 0) rfl
      have at1 : atI [V.str t.1, .str t.2.1, .int t.2.2] 1 = some (.str t.2.1) := atI_nat (j := 1) rfl
      have at2 : atI [V.str t.1, .str t.2.1, .int t.2.2] 2 = some (.int t.2.2) := atI_nat (j := 2) rfl
      have hskt : ∀ t ∈ ts, SkT t := fun t ht => hsk _ (T.ct t ht).2
      have hil := (List.getElem?_eq_some_iff.mp hti).1
      refine ⟨_, rfl, p, _, _, _, rfl, rfl, hpH, at2, _, rfl, _, rfl, dTri t, dTri u, tri_dp hpH, tri_dp (Same.tup' sH hb), sh_tri (hskt t ht), sh_tri (hskt u hu), .inr ⟨_, rfl, _, _, rfl, rfl, ?_⟩⟩
      rw [eqv_tri]
      refine ⟨_, rfl, _, _, rfl, rfl, _, rfl, ?_⟩
      have el := lessTs_snoc u t (ts.take i)
      rw [← take_snoc hti] at el
      by_cases hm : (lessT u t).2.2 > 0
      · rw [if_pos hm] at el
        have hm' : t.2.2 - (if decide (t = u) = true then 1 else 0) > 0 := hm
        rw [decide_eq_true hm']
        refine iteT ⟨_, rfl, .inl ⟨rfl, _, SqL.of hlH⟩, _, rfl, p, _, _, _, rfl, rfl, hpH, at0, _, rfl, p, _, _, _, rfl, rfl, hpH, at1, _, rfl, (by show 3 ≤ sizeLine; decide), fun T3 n3 => ?_⟩
        have s3 := same_upd (o := .tup [.str t.1, .str t.2.1, .int (t.2.2 - (if decide (t = u) = true then 1 else 0))]) n3
        have hl3 := s3 _ _ hlH
        have fx : Fix _ (upd _ l (.lst (vs ++ [.ref T3]))) := fix_upd hl3
        refine ⟨l, vs, _, rfl, rfl, hl3, by rw [sizeLine_eq]; omega, vs ++ [.ref T3], _, _, rfl, fun c o hc => ?_, upd_same, ?_, by rw [List.length_append]; exact Nat.succ_le_succ hvl⟩
        · rw [upd_ne (ne_of_none hc nl)]
          exact s3 _ _ (sH _ _ hc)
        · rw [el, List.map_append]
          exact dpAll_app (dpAll_fix fx _ _ (noL_tris _) (dpAll_same s3 _ _ hdp)) (.cons (dp_fix fx _ _ rfl (tri_dp (t := lessT u t) (SqT.of upd_same))) .nil)
      · rw [if_neg hm] at el
        have hm' : ¬ (t.2.2 - (if decide (t = u) = true then 1 else 0) > 0) := hm
        rw [decide_eq_false hm']
        refine iteF ⟨vs, _, _, rfl, sH, hlH, ?_, by omega⟩
        rw [el]
        exact hdp
    · rintro σ H' ⟨vs, x3, x4, rfl, sH, hlH, hdp, hvl⟩
      rw [take_all (by rw [dpAll_len hA, List.length_map]; exact Nat.le_refl _)] at hdp
      refine ⟨_, rfl, l, vs, rfl, .inl ⟨SqL.of hlH, fun t nt => ?_⟩⟩
      have st := same_upd (o := .tup vs) nt
      exact q (.ref t) _ _ (sH.trans st) (.tup (SqT.of upd_same) (dpAll_same st _ _ hdp)) (less_tally T hu)
/-! ### _law_all -/
def dEnt (e : List Str × List Tri) : PyData := .tuple [dRow e.1, dTris e.2]
theorem dp_ent {K : PySem.W.Frag} {H : Hp} {v : V} {e : Ent} (h : Dp K H v (dEnt e)) : ∃ a vq vl, v = .ref a ∧ SqT K H a [vq, vl] ∧ Dp K H vq (dRow e.1) ∧ Dp K H vl (dTris e.2) := by
  obtain ⟨a, vs, e1, h1, h2⟩ := dp_tup h
  cases h2 with
  | cons x1 r => cases r with
    | cons x2 r =>
      cases r
      exact ⟨a, _, _, e1, h1, x1, x2⟩
theorem ent_dp {K : PySem.W.Frag} {H : Hp} {a : Addr} {vq vl : V} {e : Ent} (h : SqT K H a [vq, vl]) (h1 : Dp K H vq (dRow e.1)) (h2 : Dp K H vl (dTris e.2)) : Dp K H (.ref a) (dEnt e) := .tup h (.cons h1 (.cons h2 .nil))
theorem noL_ent (e : Ent) : noL (dEnt e) = true := by
  show noLs [dRow e.1, dTris e.2] = true
  exact noLs_all fun d hd => by
    rcases List.mem_cons.mp hd with z | z
    · rw [z]; exact noL_row _
    · rw [List.mem_singleton.mp z]; exact noL_tris _
theorem noLs_ent (R : List Ent) : noLs (R.map dEnt) = true := noLs_all fun d hd => by
  obtain ⟨e, _, rfl⟩ := List.mem_map.mp hd
  exact noL_ent e
theorem noLs_rows (F : List (List Str)) : noLs (F.map dRow) = true := noLs_all fun d hd => by
  obtain ⟨e, _, rfl⟩ := List.mem_map.mp hd
  exact noL_row e
theorem mem_edge {x s : Str} : ∀ {r : List Str}, x ∈ r → ∃ e ∈ stp s r, e.2 = x
  | y :: r, h => by
    rcases List.mem_cons.mp h with z | z
    · exact ⟨(s, y), List.mem_cons_self, z.symm⟩
    · obtain ⟨e, he, h2⟩ := mem_edge (s := y) z
      exact ⟨e, List.mem_cons_of_mem _ he, h2⟩
theorem ent_sk {s : Str} {E : List (Str × Str)} {e : Ent} (h : EntOk s E e) (hs : Sk s) (hE : SkP E) : (∀ x ∈ e.1, Sk x) ∧ ∀ t ∈ e.2, SkT t := by
  obtain ⟨r, G, h1, T, hp⟩ := h
  refine ⟨fun x hx => ?_, fun t ht => hE _ (hp.mem_iff.mp (List.mem_append.mpr (.inr (T.ct t ht).2)))⟩
  rw [h1] at hx
  rcases List.mem_cons.mp hx with z | z
  · rw [z]; exact hs
  · obtain ⟨e', he', e2⟩ := mem_edge (s := s) z
    rw [← e2]
    exact (hE _ (hp.mem_iff.mp (List.mem_append.mpr (.inl he')))).2
theorem depth_tris (ts : List Tri) : (dTris ts).depth ≤ 3 := by
  show PyData.depth (.tuple (ts.map dTri)) ≤ 3
  rw [PyData.depth]
  have := depth_all (ds := ts.map dTri) (n := 2) fun d hd => by
    obtain ⟨t, _, rfl⟩ := List.mem_map.mp hd
    exact depth_tri t
  omega
theorem lay_tris {ts : List Tri} (h : ∀ t ∈ ts, SkT t) : (dTris ts).canLay0 = true := by
  show PyData.canLay0 (.tuple (ts.map dTri)) = true
  rw [PyData.canLay0]
  exact lay_all fun d hd => by
    obtain ⟨t, ht, rfl⟩ := List.mem_map.mp hd
    exact lay_tri (h t ht)
theorem sh_tris {ts : List Tri} (h : ∀ t ∈ ts, SkT t) : SeqAt.shaped (dTris ts) = true := sh_of (lay_tris h) (by have := depth_tris ts; omega)
theorem sh_ents {s : Str} {E : List (Str × Str)} {R : List Ent} (h : ∀ e ∈ R, EntOk s E e) (hs : Sk s) (hE : SkP E) : SeqAt.shaped (.list (R.map dEnt)) = true := by
  refine sh_list (n := 4) (fun d hd => ?_) (fun d hd => ?_) (by decide)
  · obtain ⟨e, he, rfl⟩ := List.mem_map.mp hd
    obtain ⟨h1, h2⟩ := ent_sk (h e he) hs hE
    show PyData.canLay0 (.tuple [dRow e.1, dTris e.2]) = true
    rw [PyData.canLay0]
    refine lay_all fun d hd => ?_
    rcases List.mem_cons.mp hd with z | z
    · rw [z]; exact lay_row h1
    · rw [List.mem_singleton.mp z]; exact lay_tris h2
  · obtain ⟨e, he, rfl⟩ := List.mem_map.mp hd
    show PyData.depth (.tuple [dRow e.1, dTris e.2]) ≤ 4
    rw [PyData.depth]
    have := depth_all (ds := [dRow e.1, dTris e.2]) (n := 3) fun d hd => by
      rcases List.mem_cons.mp hd with z | z
      · rw [z]; have := depth_row e.1; omega
      · rw [List.mem_singleton.mp z]; exact depth_tris e.2
    omega
def spAll (K : PySem.W.Frag) : Sp := fun vs H Q _ => ∃ (s : Str) (v : V) (ts : List Tri) (E : List (Str × Str)), vs = [.str s, v] ∧ Dp K H v (dTris ts) ∧ Tally ts E ∧ SkP E ∧ Sk s ∧ E.length ≤ 8 ∧
  ∀ l vs' qs H', Same H H' → H' l = some (.lst vs') → DpAll K H' vs' (List.map dRow qs) → vs'.length ≤ 362880 → (∀ q, q ∈ qs ↔ ∃ r, q = s :: r ∧ (stp s r).Perm E) → Q (.ref l) H'
theorem ok_all {f fL : Addr} {fd fdL : FuncData} (F : Fun K "_law_all" "_law_all" sLAll f fd) (B : Bn mg) (GL : Gd P w K mg base 1 "_law_less" ["_law_rows_so", "_law_own"] (spLess K) fL fdL) : FnOk P w K mg base CX0 2 f fd ["_law_first_so", "_law_rows_so"] (spAll K) := by
  refine F.ok scLAll (fun vs H Q E h => ?_) (fun cdv A outer sh H vs Q E hr h => ?_)
  · obtain ⟨s, v, ts, E, rfl, _⟩ := h
    rfl
  · obtain ⟨s, v, ts, E, rfl, hD, T, hsk, hs, hEl, q⟩ := h
    refine ⟨_, pss_cons (ps_par (i := 2) (j := 3) (by rfl) scLAll.nd rfl rfl (by decide) rfl rfl (pa_cons (pe_lst pa_nil) (pa_cons (pe_lst (pa_cons (pe_tup (pa_cons (pe_tup (pa_cons (pv 0) pa_nil)) (pa_cons (pv 1) pa_nil))) pa_nil)) pa_nil)) (by rfl))
      (pss_cons (ps_while PassesOwn.never (pt_cmpR (op_neD (hu64 hr)) (pv 3) (pe_lst pa_nil) (nomark _))
        (pss_cons (ps_asg (pe_bm0 PySem.F.plainAttrs_list PySem.F.slot_list_pop PySem.F.type_list_pop mt_pop (pv 3)) (pg_tup rfl (pgs_cons (pg_name (i := 4) scLAll.nd rfl (.inl rfl)) (pgs_cons (pg_name (i := 5) scLAll.nd rfl (.inl rfl)) pgs_nil))))
        (C8.pss_cut (ps_if (pt_cmpR (op_eqD (hu64 hr)) (pv 5) (pe_tup pa_nil) (nomark _)) (pss_one (ps_expr (pe_bm PySem.F.plainAttrs_list PySem.F.slot_list_append PySem.F.type_list_append mt_append (pv 2) (pa_cons (pv 4) pa_nil)))) pss_nil)
        (pss_one (ps_for PassesOwn.never rfl (pi_tup (pe_revT (pv 5))) (pg_name (i := 6) scLAll.nd rfl (.inl rfl))
          (pss_one (ps_if (pt_cmpR op_eq (pe_ix ix_tup (pv 6) pe_int (fun _ _ => rfl)) (pe_ix ix_tup (pv 4) (pe_un un_neg pe_int) (fun _ _ => rfl)) (nomark _))
            (pss_one (ps_expr (pe_bm PySem.F.plainAttrs_list PySem.F.slot_list_append PySem.F.type_list_append mt_append (pv 3) (pa_cons (pe_tup (pa_cons (pe_op op_catA (pv 4) (pe_tup (pa_cons (pe_ix ix_tup (pv 6) pe_int (fun _ _ => rfl)) pa_nil))) (pa_cons (pe_g GL hr (by rfl) (pa_cons (pv 5) (pa_cons (pv 6) pa_nil))) pa_nil))) pa_nil)))) pss_nil)))))))
      (pss_one (ps_ret (pv 2)))), ?_⟩
    have hfac : fac (E.length + 1) ≤ 362880 := by
      have key : ∀ n, n ≤ 9 → fac n ≤ 362880 := by decide
      exact key _ (by omega)
    refine ⟨Nat.zero_le _, fun lf nf => ?_⟩
    refine ⟨_, rfl, (by show 1 ≤ sizeLine; decide), fun T1 n1 => ⟨_, rfl, (by show 2 ≤ sizeLine; decide), fun T2 n2 => ⟨(by show 1 ≤ sizeLine; decide), fun lr nr => ⟨_, _, rfl, ?_⟩⟩⟩⟩
    have s0 := same_upd (o := .lst []) nf
    have s1 := same_upd (o := .tup [.str s]) n1
    have s2 := same_upd (o := .tup [.ref T1, v]) n2
    have s3 := same_upd (o := .lst [.ref T2]) nr
    have s03 := ((s0.trans s1).trans s2).trans s3
    have nlr : H lr = none := ((s0.trans s1).trans s2).free nr
    have nfr : lf ≠ lr := ne_of_none ((s1.trans s2) _ _ upd_same) nr
    refine ⟨fun m σ H' => ∃ (vf vr : List V) (F : List (List Str)) (R : List Ent) (x4 x5 x6 : Option V), m = wts E R ∧ σ = [some (.str s), some v, some (.ref lf), some (.ref lr), x4, x5, x6] ∧ Same H H' ∧ H' lf = some (.lst vf) ∧ H' lr = some (.lst vr) ∧ DpAll K H' vf (F.map dRow) ∧ DpAll K H' vr (R.map dEnt) ∧ DInv s E F R,
      ⟨_, [], [.ref T2], [], [([s], ts)], none, none, none, rfl, rfl, s03, (s1.trans s2).trans s3 _ _ upd_same, upd_same, .nil, .cons (ent_dp (e := ([s], ts)) (SqT.of (s3 _ _ upd_same)) (row_dp (xs := [s]) (SqT.of ((s2.trans s3) _ _ upd_same))) (dp_same s03 _ _ hD)) .nil, dinv_start T⟩, ?_⟩
    rintro m σ H1 ⟨vf, vr, F, R, x4, x5, x6, rfl, rfl, sH, hlf, hlr, hdf, hdr, hI⟩
    have hvfl : vf.length ≤ 362880 := by
      have := hI.sz
      have := dpAll_len hdf
      rw [List.length_map] at this
      omega
    have hRl : R.length ≤ wts E R := by
      unfold wts
      have key : ∀ R : List Ent, R.length ≤ (R.map (wt E)).sum := by
        intro R
        induction R with
        | nil => exact Nat.le_refl _
        | cons e R ih =>
          rw [List.map_cons, List.sum_cons, List.length_cons]
          have : 0 < wt E e := fac_pos _
          omega
      exact key R
    refine ⟨_, rfl, Nat.zero_le _, fun l0 n0 => ?_⟩
    have t0 := same_upd (o := .lst []) n0
    refine ⟨.list (R.map dEnt), .list [], .lst (SqL.of (t0 _ _ hlr)) (dpAll_same t0 _ _ hdr), .lst (SqL.of upd_same) .nil, sh_ents hI.ok hs hsk, sh_nilL, _, rfl, ?_⟩
    rw [eqv_nilL]
    have sH1 := sH.trans t0
    have hlf1 := t0 _ _ hlf
    have hlr1 := t0 _ _ hlr
    have hdf1 := dpAll_same t0 _ _ hdf
    have hdr1 := dpAll_same t0 _ _ hdr
    by_cases hR : R = []
    · subst hR
      refine iteF ⟨_, rfl, q lf vf F _ sH1 hlf1 hdf1 hvfl fun q' => dinv_end hI q'⟩
    · obtain ⟨Ri, e, rfl⟩ : ∃ Ri e, R = Ri ++ [e] := ⟨R.dropLast, R.getLast hR, (List.dropLast_concat_getLast hR).symm⟩
      rw [show ((Ri ++ [e]).map dEnt).isEmpty = false by simp]
      obtain ⟨r, G, he1, TG, hp⟩ := hI.ok e (List.mem_append.mpr (.inr (List.mem_singleton.mpr rfl)))
      have hGl : G.length ≤ 8 := by
        have z := hp.length_eq
        rw [List.length_append] at z
        omega
      have hGsk : SkP G := fun x hx => hsk x (hp.mem_iff.mp (List.mem_append.mpr (.inr hx)))
      -- the last one's value
      have hvr : ∃ vri ve, vr = vri ++ [ve] ∧ DpAll K (upd H1 l0 (.lst [])) vri (Ri.map dEnt) ∧ Dp K (upd H1 l0 (.lst [])) ve (dEnt e) := by
        have hlv := dpAll_len hdr1
        rw [List.length_map, List.length_append] at hlv
        obtain ⟨ve, hve, hdv⟩ := dpAll_at' hdr1 (i := Ri.length) (d := dEnt e) (by rw [List.map_append]; simp)
        have hlt : Ri.length < vr.length := by rw [hlv]; exact Nat.lt_succ_self _
        have e2 : vr = vr.take Ri.length ++ [ve] := by rw [← take_snoc hve, List.take_of_length_le (by rw [hlv]; exact Nat.le_refl _)]
        refine ⟨vr.take Ri.length, ve, e2, ?_, hdv⟩
        have hsplit : ∀ (vs : List V) (ds es : List PyData) (H : Hp), DpAll K H vs (ds ++ es) → DpAll K H (vs.take ds.length) ds := by
          intro vs ds
          induction ds generalizing vs with
          | nil => intro es H _; exact .nil
          | cons d ds ih =>
            intro es H h
            cases h with
            | cons h1 h2 => exact .cons h1 (ih _ es H h2)
        have z := hsplit vr (Ri.map dEnt) [dEnt e] _ (by rw [List.map_append] at hdr1; exact hdr1)
        rwa [List.length_map] at z
      obtain ⟨vri, ve, rfl, hdri, hdve⟩ := hvr
      obtain ⟨pe, vq, vl, rfl, hpe, hvq, hvl⟩ := dp_ent hdve
      have f1 : Fix (upd H1 l0 (.lst [])) (upd (upd H1 l0 (.lst [])) lr (.lst vri)) := fix_upd hlr1
      refine iteT ⟨fun σ' H' => ∃ (vf vr : List V) (F' : List (List Str)) (R' : List Ent) (x4 x5 x6 : Option V), wts E R' < wts E (Ri ++ [e]) ∧ σ' = [some (.str s), some v, some (.ref lf), some (.ref lr), x4, x5, x6] ∧ Same H H' ∧ H' lf = some (.lst vf) ∧ H' lr = some (.lst vr) ∧ DpAll K H' vf (F'.map dRow) ∧ DpAll K H' vr (R'.map dEnt) ∧ DInv s E F' R', ?_, ?_⟩
      · rintro σ' H' ⟨vf', vr', F', R', y4, y5, y6, hlt, rfl, z1, z2, z3, z4, z5, z6⟩
        exact ⟨_, hlt, vf', vr', F', R', y4, y5, y6, rfl, rfl, z1, z2, z3, z4, z5, z6⟩
      refine ⟨_, rfl, .inl ⟨rfl, _, SqL.of hlr1⟩, lr, vri ++ [.ref pe], .ref pe, rfl, rfl, hlr1, by rw [List.length_append]; simp, ?_⟩
      rw [List.dropLast_concat]
      refine ⟨pe, _, rfl, f1.tup hpe, rfl, _, _, rfl, _, _, rfl, rfl, ?_⟩
      have sH2 : Same H (upd (upd H1 l0 (.lst [])) lr (.lst vri)) := fun c o hc => by
        rw [upd_ne (ne_of_none hc nlr)]
        exact sH1 _ _ hc
      have hlf2 : (upd (upd H1 l0 (.lst [])) lr (.lst vri)) lf = some (.lst vf) := by rw [upd_ne nfr]; exact hlf1
      have hlr2 : (upd (upd H1 l0 (.lst [])) lr (.lst vri)) lr = some (.lst vri) := upd_same
      have hdf2 := dpAll_fix f1 _ _ (noLs_rows F) hdf1
      have hdri2 := dpAll_fix f1 _ _ (noLs_ent Ri) hdri
      have hvq2 := dp_fix f1 _ _ (noL_row _) hvq
      have hvl2 := dp_fix f1 _ _ (noL_tris _) hvl
      generalize upd (upd H1 l0 (.lst [])) lr (.lst vri) = H2 at sH2 hlf2 hlr2 hdf2 hdri2 hvq2 hvl2
      -- if left == (): found.append(trail)
      refine ⟨fun σ' H3 => ∃ vf', σ' = [some (.str s), some v, some (.ref lf), some (.ref lr), some vq, some vl, x6] ∧ Same H H3 ∧ Fix H2 H3 ∧ H3 lf = some (.lst vf') ∧ H3 lr = some (.lst vri) ∧ DpAll K H3 vf' ((if e.2 = [] then F ++ [e.1] else F).map dRow), ?_, ?_⟩
      · refine ⟨_, rfl, Nat.zero_le _, fun T5 n5 => ?_⟩
        have t5 := same_upd (o := .tup []) n5
        refine ⟨dTris e.2, .tuple [], dp_same t5 _ _ hvl2, .tup (SqT.of upd_same) .nil, sh_tris (ent_sk (hI.ok e (List.mem_append.mpr (.inr (List.mem_singleton.mpr rfl)))) hs hsk).2, sh_nilT, _, rfl, ?_⟩
        rw [show PyData.eqv (dTris e.2) (.tuple []) = (e.2.map dTri).isEmpty from eqv_nilT _]
        by_cases hn : e.2 = []
        · rw [if_pos hn, hn]
          have hlf3 := t5 _ _ hlf2
          have fx : Fix (upd H2 T5 (.tup [])) (upd (upd H2 T5 (.tup [])) lf (.lst (vf ++ [vq]))) := fix_upd hlf3
          refine iteT ⟨_, rfl, .inl ⟨rfl, _, SqL.of hlf3⟩, _, rfl, lf, vf, _, rfl, rfl, hlf3, by rw [sizeLine_eq]; omega, vf ++ [vq], rfl, fun c o hc => ?_, (Same.fix t5).trans fx, upd_same, ?_, ?_⟩
          · rw [upd_ne (ne_of_none hc nf)]
            exact t5 _ _ (sH2 _ _ hc)
          · rw [upd_ne nfr.symm]
            exact t5 _ _ hlr2
          · rw [List.map_append]
            exact dpAll_app (dpAll_fix fx _ _ (noLs_rows F) (dpAll_same t5 _ _ hdf2)) (.cons (dp_fix fx _ _ (noL_row _) (dp_same t5 _ _ hvq2)) .nil)
        · rw [if_neg hn, show (e.2.map dTri).isEmpty = false by simpa using hn]
          exact iteF ⟨vf, rfl, sH2.trans t5, Same.fix t5, t5 _ _ hlf2, t5 _ _ hlr2, dpAll_same t5 _ _ hdf2⟩
      · rintro σ' H3 ⟨vf', rfl, sH3, f23, hlf3, hlr3, hdf3⟩
        have hvq3 := dp_fix f23 _ _ (noL_row _) hvq2
        have hvl3 := dp_fix f23 _ _ (noL_tris _) hvl2
        have hdri3 := dpAll_fix f23 _ _ (noLs_ent Ri) hdri2
        obtain ⟨qa, rfl, hqa⟩ := dp_row hvq3
        obtain ⟨la, xl, rfl, hla, hAl⟩ := dp_tup hvl3
        refine ⟨_, rfl, la, xl, rfl, hla, fun pr npr => ?_⟩
        have tr := same_upd (o := .tup xl.reverse) npr
        have hAr : DpAll K (upd H3 pr (.tup xl.reverse)) xl.reverse (e.2.reverse.map dTri) := by
          rw [List.map_reverse]
          exact dpAll_same tr _ _ (dpAll_rev hAl)
        have hcsz : ∀ {cs : List Ent} {ws : List Tri}, Ways s E e ws cs → ws.length ≤ e.2.length → cs.length ≤ 8 := fun {cs ws} w hle => by
          have := w.le
          have := TG.len
          omega
        refine ⟨pr, rfl, ⟨_, SqT.of upd_same⟩, L2.for_tup (K := K) (a := pr) (xs := xl.reverse) (fun i σ H' => ∃ (vc : List V) (cs : List Ent) (y6 : Option V), σ = [some (.str s), some v, some (.ref lf), some (.ref lr), some (.ref qa), some (.ref la), y6] ∧ Same H H' ∧ Fix (upd H3 pr (.tup xl.reverse)) H' ∧ H' lf = some (.lst vf') ∧ H' lr = some (.lst (vri ++ vc)) ∧ DpAll K H' vc (cs.map dEnt) ∧ Ways s E e (e.2.reverse.take i) cs)
          ⟨[], [], x6, rfl, sH3.trans tr, Fix.refl _, tr _ _ hlf3, by rw [List.append_nil]; exact tr _ _ hlr3, .nil, ways_nil s E e⟩ (fun i σ H' _ h => ?_) ?_ ?_⟩
        · obtain ⟨_, _, _, _, _, hh, _⟩ := h
          exact hh.tup (SqT.of upd_same)
        · rintro i y σ H' hy ⟨vc, cs, y6, rfl, sH', fH', hlfH, hlrH, hdc, hW⟩
          obtain ⟨t, p, hti, htm, rfl, hp'⟩ := tri_at hAr hy
          have hpH := fH'.tup hp'
          have htm' : t ∈ e.2 := List.mem_reverse.mp htm
          have at0 : atI [V.str t.1, .str t.2.1, .int t.2.2] 0 = some (.str t.1) := atI_nat (j := 0) rfl
          have at1 : atI [V.str t.1, .str t.2.1, .int t.2.2] 1 = some (.str t.2.1) := atI_nat (j := 1) rfl
          have hqaH : SqT K H' qa ((s :: r).map V.str) := by
            rw [he1] at hqa
            exact fH'.tup (Same.tup' tr hqa)
          have hcl := hcsz hW (by rw [List.length_take, List.length_reverse]; omega)
          refine ⟨_, rfl, p, _, _, _, rfl, rfl, hpH, at0, _, rfl, _, rfl, qa, _, _, _, rfl, rfl, hqaH, last_map s r, rfl, _, rfl, ?_⟩
          by_cases hl : t.1 = lst s r
          · rw [decide_eq_true (show V.str t.1 = V.str (lst s r) by rw [hl])]
            refine iteT ⟨_, rfl, .inl ⟨rfl, _, SqL.of hlrH⟩, _, rfl, _, rfl, p, _, _, _, rfl, rfl, hpH, at1, (by show 1 ≤ sizeLine; decide), fun T6 n6 => ?_⟩
            have t6 := same_upd (o := .tup [.str t.2.1]) n6
            have hrl : r.length ≤ 8 := by
              have z := hp.length_eq
              rw [List.length_append, stp_length] at z
              omega
            refine cat_any (Same.tup' t6 hqaH) (SqT.of upd_same) (by rw [List.length_map, List.length_cons, sizeLine_eq]; show r.length + 1 + 1 ≤ _; omega) fun p7 H7 s7 h7 => ?_
            have t67 := t6.trans s7
            have hvlH : Dp K H7 (.ref la) (dTris e.2) := dp_same t67 _ _ (dp_fix fH' _ _ (noL_tris _) (dp_same tr _ _ hvl3))
            refine ⟨_, rfl, _, rfl, .ref la, p, e.2, t, G, rfl, hvlH, Same.tup' t67 hpH, TG, htm', hGsk, by omega, fun v8 ts8 H8 s8 d8 T8 => ⟨(by show 2 ≤ sizeLine; decide), fun T9 n9 => ?_⟩⟩
            have t9 := same_upd (o := .tup [.ref p7, v8]) n9
            have tall := (t67.trans s8).trans t9
            have hlr9 := tall _ _ hlrH
            have fx : Fix _ (upd _ lr (.lst (vri ++ vc ++ [.ref T9]))) := fix_upd hlr9
            have hvc := dpAll_len hdc
            have hvri := dpAll_len hdri
            rw [List.length_map] at hvc hvri
            have hRil : Ri.length ≤ 362880 := by
              have := hI.sz
              rw [List.length_append] at hRl
              omega
            have hnew : Dp K (upd (upd H8 T9 (.tup [.ref p7, v8])) lr (.lst (vri ++ vc ++ [.ref T9]))) (.ref T9) (dEnt (e.1 ++ [t.2.1], ts8)) := by
              refine dp_fix fx _ _ (noL_ent _) (ent_dp (SqT.of upd_same) (dp_same (s8.trans t9) _ _ ?_) (dp_same t9 _ _ d8))
              have h7' : SqT K H7 p7 ((e.1 ++ [t.2.1]).map V.str) := by
                rw [he1, List.map_append]
                exact h7
              exact row_dp h7'
            refine ⟨lr, vri ++ vc, _, rfl, rfl, hlr9, by rw [List.length_append, sizeLine_eq]; omega, vc ++ [.ref T9], cs ++ [(e.1 ++ [t.2.1], ts8)], _, rfl, fun c o hc => ?_, fH'.trans ((Same.fix tall).trans fx), ?_, by rw [upd_same, List.append_assoc], ?_, ?_⟩
            · rw [upd_ne (ne_of_none hc nlr)]
              exact tall _ _ (sH' _ _ hc)
            · rw [upd_ne nfr]
              exact tall _ _ hlfH
            · rw [List.map_append]
              exact dpAll_app (dpAll_fix fx _ _ (noLs_ent cs) (dpAll_same tall _ _ hdc)) (.cons hnew .nil)
            · rw [take_snoc hti]
              exact ways_go hW he1 hp (TG.ct t htm').2 hl T8
          · rw [decide_eq_false (str_ne hl)]
            refine iteF ⟨vc, cs, _, rfl, sH', fH', hlfH, hlrH, hdc, ?_⟩
            rw [take_snoc hti]
            exact ways_skip hW fun l' hl' => by
              rw [he1, lst_getLast] at hl'
              rw [← Option.some.inj hl']
              exact hl
        · rintro σ H' ⟨vc, cs, y6, rfl, sH', fH', hlfH, hlrH, hdc, hW⟩
          rw [take_all (by rw [dpAll_len hAr, List.length_map]; exact Nat.le_refl _)] at hW
          obtain ⟨d1, d2⟩ := dfs_step hI hW (List.reverse_perm _)
          refine ⟨vf', vri ++ vc, _, Ri ++ cs, _, _, _, d2, rfl, sH', hlfH, hlrH, dpAll_fix fH' _ _ (noLs_rows _) (dpAll_same tr _ _ hdf3), ?_, d1⟩
          rw [List.map_append]
          exact dpAll_app (dpAll_fix fH' _ _ (noLs_ent Ri) (dpAll_same tr _ _ hdri3)) hdc
end
end K76
set_option Elab.async false
set_option linter.all false
set_option maxRecDepth 100000
/-! The law's own defs, ninth part: _law_shared. -/
namespace K76
open PySem PySem.Spec PyProof.Rows L2
def rLenS (K : PySem.W.Frag) : List V → Hp → VK → Prop := fun xs H Q => ∃ p ys, xs = [.ref p] ∧ (SqL K H p ys ∨ SqT K H p ys) ∧ Q (.int ys.length) H
theorem call_lenS {X : Cx} : CallR X (.builtin "len") (rLenS X.K) := call_len_seq
/-- slices of a tuple up to a place -/
theorem sl_to {K : PySem.W.Frag} {H : Hp} {Q : VK} {a : Addr} {xs : List Str} {k : Nat} (h : SqT K H a (xs.map V.str)) (q : ∀ p H', Same H H' → SqT K H' p ((xs.take k).map V.str) → Q (.ref p) H') : rSlA K (.ref a) none (some (k : Int)) H Q :=
  sl_any h fun p H' s hp => q p H' s (by rw [cut_to] at hp; rw [List.map_take]; exact hp)
theorem sl_from {K : PySem.W.Frag} {H : Hp} {Q : VK} {a : Addr} {xs : List Str} {k : Nat} (h : SqT K H a (xs.map V.str)) (q : ∀ p H', Same H H' → SqT K H' p ((xs.drop k).map V.str) → Q (.ref p) H') : rSlA K (.ref a) (some (k : Int)) none H Q :=
  sl_any h fun p H' s hp => q p H' s (by rw [cut_from] at hp; rw [List.map_drop]; exact hp)
section
variable {P : Program} {w : World} {K : PySem.W.Frag} {mg : Str → Option Value} {base : Heap}
/-- the longest beginning of all -/
structure Lcp (qs : List (List Str)) (h : List Str) (k : Nat) : Prop where
  le : ∀ q ∈ qs, k ≤ q.length ∧ q.take k = h.take k
  mx : (∃ q ∈ qs, q.length = k) ∨ ∃ q ∈ qs, q.take (k + 1) ≠ h.take (k + 1)
def spShared (K : PySem.W.Frag) : Sp := fun vs H Q _ => ∃ (a : Addr) (vs' : List V) (h : List Str) (qr : List (List Str)), vs = [.ref a] ∧ SqL K H a vs' ∧ DpAll K H vs' (List.map dRow (h :: qr)) ∧ vs'.length ≤ 362880 ∧ (∀ q ∈ h :: qr, ∀ x ∈ q, Sk x) ∧
  ∀ p k H', Same H H' → SqT K H' p (List.map V.str (h.take k)) → Lcp (h :: qr) h k → Q (.ref p) H'
theorem ok_shared {f : Addr} {fd : FuncData} {k : Nat} (F : Fun K "_law_shared" "_law_shared" sLShared f fd) (B : Bn mg) : FnOk P w K mg base CX0 (k + 1) f fd ["_law_all_so"] (spShared K) := by
  refine F.ok scLShared (fun vs H Q E h => ?_) (fun cdv A outer sh H vs Q E hr h => ?_)
  · obtain ⟨a, vs', h, qr, rfl, _⟩ := h
    rfl
  · obtain ⟨a, vs', hd, qr, rfl, hS, hA, hl, hsk, q⟩ := h
    refine ⟨_, pss_cons (ps_set (i := 1) scLShared.nd rfl (.inr rfl) (pe_callB (cr_min rfl) (by rfl) B.min (by decide +kernel) (pa_cons
        (pe_lc (own := [("_law_own", 2)]) (g := gName 2) (tt := tYes) (te := tCB (rLenS K) (tCons (tVar 2) tNil)) (by rfl) scLShared.nd (pi_list (pv 0)) (blkOk_by (own := [("_law_own", 2)]) (N := ["_law_all_so", "_law_far", "_law_own"]) (sc := defScope sLShared) (by decide +kernel))
          (fun _ _ _ _ _ => pg_name (i := 2) scLShared.nd rfl (.inl rfl)) (fun _ _ _ _ _ => pts_nil) (fun _ _ _ _ _ => pe_callB call_lenS (by rfl) B.len PySem.boot_len (pa_cons (pv 2) pa_nil))) pa_nil)))
      (pss_cons (ps_while PassesOwn.never (pt_cmpR op_gt (pe_callB call_len_seq (by rfl) B.len PySem.boot_len (pa_cons
          (pe_lc (own := [("_law_own", 2)]) (g := gName 2) (tt := tTest (tOp (rNeD K) (tSl (rSlA K) (tVar 2) tNoPart (tPart (tVar 1))) (tSl (rSlA K) (tOp (rIxL K) (tVar 0) (tC (.int 0))) tNoPart (tPart (tVar 1))))) (by rfl) scLShared.nd (pi_list (pv 0)) (blkOk_by (own := [("_law_own", 2)]) (N := ["_law_all_so", "_law_far", "_law_own"]) (sc := defScope sLShared) (by decide +kernel))
            (fun _ _ _ _ _ => pg_name (i := 2) scLShared.nd rfl (.inl rfl)) (fun _ _ _ _ _ => pts_one (pt_cmpR (op_neD (hu64 hr)) (pe_slice sl_tupA (pv 2) po_none (po_some (pv 1))) (pe_slice sl_tupA (pe_ix ix_list (pv 0) pe_int (fun _ _ => rfl)) po_none (po_some (pv 1))) (nomark _))) (fun _ _ _ _ _ => pv 2)) pa_nil)) pe_int (nomark _))
        (pss_one (ps_set (i := 1) scLShared.nd rfl (.inr rfl) (pe_op op_sub (pv 1) pe_int))))
      (pss_one (ps_ret (pe_slice sl_tupA (pe_ix ix_list (pv 0) pe_int (fun _ _ => rfl)) po_none (po_some (pv 1)))))), ?_⟩
    have hvl : vs'.length = (hd :: qr).length := by rw [dpAll_len hA, List.length_map]
    generalize hqs : hd :: qr = qs at *
    have hhd : hd ∈ qs := by rw [← hqs]; exact List.mem_cons_self
    -- far = min([..])
    refine ⟨_, rfl, a, rfl, ⟨_, hS⟩, fun D nD => ?_⟩
    refine lc_list (K := K) (a := a) (xs := vs') (fun i H' => Same H H' ∧ H' D = some (.lst (((qs.take i).map fun q => (q.length : Int)).map V.int))) ⟨same_upd nD, upd_same⟩ (fun i H' _ h => h.1.seq hS) ?_ ?_
    · rintro i y H' hy ⟨sH, hD⟩
      obtain ⟨m, b, hmi, hm, rfl, hb⟩ := row_at hA hy
      refine ⟨rfl, _, rfl, b, _, rfl, .inr (Same.tup' sH hb), _, hD, ?_, fun c o hc => ?_, ?_⟩
      · rw [List.length_map, List.length_map, List.length_take, sizeLine_eq]; omega
      · rw [upd_ne (ne_of_none hc nD)]
        exact sH _ _ hc
      · rw [upd_same, take_snoc hmi, List.map_append, List.map_append, List.length_map]
        rfl
    rintro H1 ⟨s1, hD⟩
    rw [take_all (xs := qs) (n := vs'.length) (by omega)] at hD
    refine ⟨D, qs.map fun q => (q.length : Int), rfl, SqL.of hD, by rw [List.length_map]; exact List.length_pos_of_mem hhd, fun m hm hmin => ?_⟩
    obtain ⟨q0, hq0, rfl⟩ := List.mem_map.mp hm
    have hmin' : ∀ q ∈ qs, q0.length ≤ q.length := fun q hq => by
      have := hmin _ (List.mem_map.mpr ⟨q, hq, rfl⟩)
      omega
    -- the loop
    refine ⟨fun mm σ H' => ∃ kk : Nat, mm = kk ∧ σ = [some (.ref a), some (.int kk), none] ∧ Same H H' ∧ (∀ q ∈ qs, kk ≤ q.length) ∧ ((∃ q ∈ qs, q.length = kk) ∨ ∃ q ∈ qs, q.take (kk + 1) ≠ hd.take (kk + 1)), ⟨_, q0.length, rfl, rfl, s1, hmin', .inl ⟨q0, hq0, rfl⟩⟩, ?_⟩
    rintro kk σ H2 ⟨_, rfl, rfl, s2, hle, hmx⟩
    have h0 : ∀ {H'}, Same H H' → ∃ b, SqT K H' b (hd.map V.str) ∧ atI vs' 0 = some (.ref b) := fun {H'} s => by
      rw [← hqs] at hA
      cases vs' with
      | nil => cases hA
      | cons v r =>
        cases hA with
        | cons z _ =>
          obtain ⟨b, rfl, hb⟩ := dp_row z
          exact ⟨b, Same.tup' s hb, atI_nat (j := 0) rfl⟩
    refine ⟨_, rfl, a, rfl, ⟨_, s2.seq hS⟩, fun D2 nD2 => ?_⟩
    refine lc_list (K := K) (a := a) (xs := vs') (fun i H' => Same H2 H' ∧ ∃ vs : List V, H' D2 = some (.lst vs) ∧ vs.length = ((qs.take i).filter fun q => decide (q.take kk ≠ hd.take kk)).length) ⟨same_upd nD2, [], upd_same, rfl⟩ (fun i H' _ h => (s2.trans h.1).seq hS) ?_ ?_
    · rintro i y H' hy ⟨sH, vs, hD2, hvs⟩
      obtain ⟨m, b, hmi, hm, rfl, hb⟩ := row_at hA hy
      have sH2 := s2.trans sH
      refine ⟨rfl, _, rfl, _, rfl, _, rfl, sl_to (Same.tup' sH2 hb) fun p3 H3 s3 h3 => ?_⟩
      obtain ⟨b0, hb0, at0⟩ := h0 (sH2.trans s3)
      refine ⟨_, rfl, a, _, _, _, rfl, rfl, (sH2.trans s3).seq hS, at0, _, rfl, _, rfl, sl_to hb0 fun p4 H4 s4 h4 => ?_⟩
      refine ⟨dRow (m.take kk), dRow (hd.take kk), row_dp (Same.tup' s4 h3), row_dp h4, sh_row fun x hx => hsk m hm x (List.mem_of_mem_take hx), sh_row fun x hx => hsk hd hhd x (List.mem_of_mem_take hx), _, rfl, ?_⟩
      rw [eqv_row]
      have s34 := s3.trans s4
      have hD4 := s34 _ _ hD2
      by_cases hne : m.take kk = hd.take kk
      · rw [decide_eq_true hne]
        refine iteF ⟨sH.trans s34, vs, hD4, ?_⟩
        rw [hvs, take_snoc hmi, List.filter_append]
        simp [hne]
      · rw [decide_eq_false hne]
        refine iteT ⟨_, rfl, vs, hD4, ?_, fun c o hc => ?_, _, upd_same, ?_⟩
        · have z1 := List.length_filter_le (fun q => decide (q.take kk ≠ hd.take kk)) (qs.take i)
          rw [List.length_take] at z1
          rw [sizeLine_eq]; omega
        · rw [upd_ne (ne_of_none hc nD2)]
          exact s34 _ _ (sH _ _ hc)
        · rw [List.length_append, hvs, take_snoc hmi, List.filter_append, List.length_append]
          simp [hne]
    · rintro H3 ⟨s3, vs, hD3, hvs⟩
      rw [take_all (xs := qs) (n := vs'.length) (by omega)] at hvs
      refine ⟨D2, vs, rfl, .inl (SqL.of hD3), _, _, rfl, rfl, _, rfl, ?_⟩
      have s23 := s2.trans s3
      by_cases hpos : 0 < vs.length
      · rw [show decide ((vs.length : Int) > 0) = true from decide_eq_true (by omega)]
        rw [hvs] at hpos
        obtain ⟨q1, hq1⟩ := List.exists_mem_of_length_pos hpos
        obtain ⟨hq1m, hq1n⟩ := List.mem_filter.mp hq1
        have hq1n : q1.take kk ≠ hd.take kk := of_decide_eq_true hq1n
        have hk1 : 1 ≤ kk := by
          cases kk with
          | zero => exact absurd rfl hq1n
          | succ n => omega
        refine iteT ⟨fun σ' H' => σ' = [some (.ref a), some (.int ((kk - 1 : Nat) : Int)), none] ∧ Same H H', ?_, ?_⟩
        · rintro σ' H' ⟨rfl, sH'⟩
          exact ⟨kk - 1, by omega, kk - 1, rfl, rfl, sH', fun q hq => by have := hle q hq; omega, .inr ⟨q1, hq1m, by rw [show kk - 1 + 1 = kk by omega]; exact hq1n⟩⟩
        · refine ⟨_, rfl, _, _, rfl, rfl, ?_, s23⟩
          show [some (V.ref a), some (V.int ((kk : Int) - 1)), none] = _
          rw [show (kk : Int) - 1 = ((kk - 1 : Nat) : Int) by omega]
      · rw [show decide ((vs.length : Int) > 0) = false from decide_eq_false (by omega)]
        refine iteF ?_
        have hall : ∀ q ∈ qs, q.take kk = hd.take kk := fun q hq => by
          apply Classical.byContradiction
          intro hne
          exact hpos (by rw [hvs]; exact List.length_pos_of_mem (List.mem_filter.mpr ⟨hq, decide_eq_true hne⟩))
        obtain ⟨b0, hb0, at0⟩ := h0 s23
        refine ⟨_, rfl, a, _, _, _, rfl, rfl, s23.seq hS, at0, _, rfl, _, rfl, sl_to hb0 fun p4 H4 s4 h4 => ?_⟩
        exact q p4 kk H4 (s23.trans s4) h4 ⟨fun q hq => ⟨hle q hq, hall q hq⟩, hmx⟩
end
end K76
set_option Elab.async false
set_option linter.all false
set_option maxRecDepth 100000
/-! The law's own defs, tenth part: _law_goes_on. -/
namespace K76
open PySem PySem.Spec PyProof.Rows L2
theorem nodup_le : ∀ (l D : List Str), l.Nodup → (∀ x ∈ l, x ∈ D) → l.length ≤ D.length
  | [], _, _, _ => Nat.zero_le _
  | x :: l, D, hn, hs => by
    obtain ⟨h1, h2⟩ := List.nodup_cons.mp hn
    have hx : x ∈ D := hs x List.mem_cons_self
    have ih := nodup_le l (D.erase x) h2 fun y hy => by
      have hne : y ≠ x := fun e => h1 (e ▸ hy)
      exact (List.mem_erase_of_ne hne).2 (hs y (List.mem_cons_of_mem _ hy))
    have e := List.length_erase_of_mem hx
    have hp : 0 < D.length := List.length_pos_of_mem hx
    rw [List.length_cons]
    omega
def spots (G : List (Str × Str)) : List Str := G.flatMap fun e => [e.1, e.2]
theorem mem_spots {G : List (Str × Str)} {x : Str} : x ∈ spots G ↔ ∃ e ∈ G, x = e.1 ∨ x = e.2 := by
  unfold spots
  rw [List.mem_flatMap]
  constructor
  · rintro ⟨e, he, hx⟩
    exact ⟨e, he, by simpa using hx⟩
  · rintro ⟨e, he, hx⟩
    exact ⟨e, he, by simpa using hx⟩
theorem spots_len (G : List (Str × Str)) : (spots G).length = 2 * G.length := by
  induction G with
  | nil => rfl
  | cons e G ih =>
    show ([e.1, e.2] ++ spots G).length = _
    simp only [List.length_append, List.length_cons, List.length_nil, ih]
    omega
def missing (G : List (Str × Str)) (fs : List Str) : Nat := ((spots G).filter fun x => decide (x ∉ fs)).length
theorem missing_lt {G : List (Str × Str)} {fs fs' : List Str} (hs : ∀ x ∈ fs, x ∈ fs') {y : Str} (h1 : y ∈ spots G) (h2 : y ∉ fs) (h3 : y ∈ fs') : missing G fs' < missing G fs := by
  unfold missing
  have key : ∀ l : List Str, (l.filter fun x => decide (x ∉ fs')).length ≤ (l.filter fun x => decide (x ∉ fs)).length ∧ (y ∈ l → (l.filter fun x => decide (x ∉ fs')).length < (l.filter fun x => decide (x ∉ fs)).length) := by
    intro l
    induction l with
    | nil => exact ⟨Nat.le_refl _, fun z => by simp at z⟩
    | cons x l ih =>
      obtain ⟨i1, i2⟩ := ih
      by_cases c1 : x ∈ fs
      · have c2 := hs x c1
        rw [List.filter_cons_of_neg (p := fun x => decide (x ∉ fs')) (by simpa using c2), List.filter_cons_of_neg (p := fun x => decide (x ∉ fs)) (by simpa using c1)]
        refine ⟨i1, fun z => i2 ?_⟩
        rcases List.mem_cons.mp z with z | z
        · exact absurd (z ▸ c1) h2
        · exact z
      · rw [List.filter_cons_of_pos (p := fun x => decide (x ∉ fs)) (by simpa using c1)]
        by_cases c2 : x ∈ fs'
        · rw [List.filter_cons_of_neg (p := fun x => decide (x ∉ fs')) (by simpa using c2), List.length_cons]
          exact ⟨by omega, fun _ => by omega⟩
        · rw [List.filter_cons_of_pos (p := fun x => decide (x ∉ fs')) (by simpa using c2), List.length_cons, List.length_cons]
          refine ⟨by omega, fun z => ?_⟩
          rcases List.mem_cons.mp z with z | z
          · exact absurd (z ▸ h3) c2
          · have := i2 z
            omega
  exact (key _).2 h1
/-- one endpoint is found, the other is not -/
def half (fs : List Str) (e : Str × Str) : Bool := !decide (decide (e.1 ∈ fs) = decide (e.2 ∈ fs))
theorem half_iff {fs : List Str} {e : Str × Str} : half fs e = true ↔ ¬ (e.1 ∈ fs ↔ e.2 ∈ fs) := by
  unfold half
  simp
structure FsOk (tag : Str) (G : List (Str × Str)) (fs : List Str) : Prop where
  tg : tag ∈ fs
  re : ∀ y ∈ fs, Reach G tag y
  nd : fs.Nodup
  sp : ∀ y ∈ fs, y ∈ tag :: spots G
theorem fs_len {tag : Str} {G : List (Str × Str)} {fs : List Str} (h : FsOk tag G fs) : fs.length ≤ 2 * G.length + 1 := by
  have := nodup_le fs (tag :: spots G) h.nd h.sp
  rw [List.length_cons, spots_len] at this
  exact this
def grow (fs : List Str) (e : Str × Str) : List Str := fs ++ [e.1, e.2].filter fun x => decide (x ∉ fs)
theorem grow_ok {tag : Str} {G : List (Str × Str)} {fs0 fs : List Str} {e : Str × Str} (h : FsOk tag G fs) (he : e ∈ G) (hu : e.1 ≠ e.2) (h0 : ∀ x ∈ fs0, x ∈ fs) (hh : half fs0 e = true) :
    FsOk tag G (grow fs e) ∧ (∀ x ∈ fs, x ∈ grow fs e) ∧ e.1 ∈ grow fs e ∧ e.2 ∈ grow fs e := by
  have re : Reach G tag e.1 ∧ Reach G tag e.2 := by
    have hh := half_iff.mp hh
    by_cases c1 : e.1 ∈ fs0
    · have r := h.re _ (h0 _ c1)
      exact ⟨r, r.trans (Reach.one he)⟩
    · have c2 : e.2 ∈ fs0 := by
        apply Classical.byContradiction
        intro c2
        exact hh ⟨fun z => absurd z c1, fun z => absurd z c2⟩
      have r := h.re _ (h0 _ c2)
      exact ⟨r.trans (Reach.eno he), r⟩
  have sub : ∀ x ∈ fs, x ∈ grow fs e := fun x hx => List.mem_append.mpr (.inl hx)
  have mem : ∀ x, x = e.1 ∨ x = e.2 → x ∈ grow fs e := fun x hx => by
    by_cases c : x ∈ fs
    · exact sub x c
    · exact List.mem_append.mpr (.inr (List.mem_filter.mpr ⟨by simpa using hx, decide_eq_true c⟩))
  have new : ∀ y ∈ [e.1, e.2].filter (fun x => decide (x ∉ fs)), (y = e.1 ∨ y = e.2) ∧ y ∉ fs := fun y hy => by
    obtain ⟨z1, z2⟩ := List.mem_filter.mp hy
    exact ⟨by simpa using z1, of_decide_eq_true z2⟩
  refine ⟨⟨sub _ h.tg, fun y hy => ?_, ?_, fun y hy => ?_⟩, sub, mem _ (.inl rfl), mem _ (.inr rfl)⟩
  · rcases List.mem_append.mp hy with z | z
    · exact h.re y z
    · rcases (new y z).1 with z | z
      · rw [z]; exact re.1
      · rw [z]; exact re.2
  · unfold grow
    rw [List.nodup_append]
    refine ⟨h.nd, ?_, fun a ha b hb e' => (new b hb).2 (e' ▸ ha)⟩
    exact List.Sublist.nodup (List.filter_sublist ..) (by simp [hu])
  · rcases List.mem_append.mp hy with z | z
    · exact h.sp y z
    · exact List.mem_cons_of_mem _ (mem_spots.mpr ⟨e, he, (new y z).1⟩)
theorem closed_conn {tag : Str} {G : List (Str × Str)} {fs : List Str} (h : FsOk tag G fs) (hc : ∀ e ∈ G, e.1 ∈ fs ↔ e.2 ∈ fs) : (∀ e ∈ G, e.1 ∈ fs) ↔ Conn tag G := by
  constructor
  · exact fun z e he => h.re _ (z e he)
  · intro c e he
    exact Reach.kept (P := fun y => y ∈ fs) (c e he) (fun a b hab => hc (a, b) hab) h.tg
theorem erase_first {e : Str × Str} : ∀ {es : List (Str × Str)}, e ∈ es → ∃ j, es[j]? = some e ∧ (∀ m d, m < j → es[m]? = some d → d ≠ e) ∧ es.eraseIdx j = es.erase e
  | [], h => by simp at h
  | x :: es, h => by
    by_cases c : x = e
    · subst c
      exact ⟨0, rfl, fun m d hm => by omega, by rw [List.erase_cons_head]; rfl⟩
    · obtain ⟨j, h1, h2, h3⟩ := erase_first ((List.mem_cons.mp h).resolve_left fun z => c z.symm)
      refine ⟨j + 1, by simpa using h1, fun m d hm hd => ?_, ?_⟩
      · cases m with
        | zero =>
          have : x = d := by simpa using hd
          rw [← this]
          exact c
        | succ m => exact h2 m d (by omega) (by simpa using hd)
      · rw [List.erase_cons_tail (by simpa using c), ← h3]
        rfl
theorem dpAll_eraseIdx {K : PySem.W.Frag} {H : Hp} : ∀ {vs : List V} {ds : List PyData} (j : Nat), DpAll K H vs ds → DpAll K H (vs.eraseIdx j) (ds.eraseIdx j)
  | _, _, _, .nil => .nil
  | _, _, 0, .cons _ t => t
  | _, _, j + 1, .cons h t => .cons h (dpAll_eraseIdx j t)
theorem dpAll_drop {K : PySem.W.Frag} {H : Hp} : ∀ {vs : List V} {ds : List PyData} (j : Nat), DpAll K H vs ds → DpAll K H (vs.drop j) (ds.drop j)
  | _, _, _, .nil => by rw [List.drop_nil, List.drop_nil]; exact .nil
  | _, _, 0, .cons h t => .cons h t
  | _, _, j + 1, .cons h t => dpAll_drop j t
theorem noLs_pairs (E : List (Str × Str)) : noLs (E.map dPair) = true := noLs_all fun d hd => by
  obtain ⟨e, _, rfl⟩ := List.mem_map.mp hd
  exact noL_row [e.1, e.2]
theorem sh_pairs {E : List (Str × Str)} (h : SkP E) : SeqAt.shaped (.list (E.map dPair)) = true := sh_list (n := 2) (fun d hd => by
  obtain ⟨e, he, rfl⟩ := List.mem_map.mp hd
  exact lay_row (xs := [e.1, e.2]) fun x hx => by
    rcases List.mem_cons.mp hx with z | z
    · rw [z]; exact (h e he).1
    · rw [List.mem_singleton.mp z]; exact (h e he).2) (fun d hd => by
  obtain ⟨e, _, rfl⟩ := List.mem_map.mp hd
  exact depth_pair e) (by decide)
section
variable {P : Program} {w : World} {K : PySem.W.Frag} {mg : Str → Option Value} {base : Heap}
structure GW (K : PySem.W.Frag) (H : Hp) (a : Addr) (k : Nat) (tag : Str) (ll : Addr) (vl : List V) (G : List (Str × Str)) (mo : Bool) (fs : List Str) (pf : Addr) (x6 x7 : Option V) (σ : L2.St) (H' : Hp) : Prop where
  s : σ = [some (.ref a), some (.int ((k : Int) + 1)), some (.str tag), some (.ref ll), some (.ref pf), some (.bl mo), x6, x7, none]
  h : Same H H'
  l : H' ll = some (.lst vl)
  d : DpAll K H' vl (G.map dPair)
  p : H' pf = some (.lst (fs.map V.str))
  f : FsOk tag G fs
  c : mo = false → ∀ e ∈ G, e.1 ∈ fs ↔ e.2 ∈ fs
def spGoes (K : PySem.W.Frag) : Sp := fun vs H Q _ => ∃ (a : Addr) (x : Str) (r : List Str) (k : Nat) (sk tag : Str), vs = [.ref a, .int ((k : Int) + 1), .str tag] ∧ SqT K H a (List.map V.str (x :: r)) ∧ (x :: r)[k]? = some sk ∧ (sk, tag) ∈ (stp x r).drop k ∧ Unl x r ∧ SkP (stp x r) ∧ r.length ≤ 30 ∧
  ∀ b H', Same H H' → (b = true ↔ Conn tag (((stp x r).drop k).erase (sk, tag))) → Q (.bl b) H'
theorem ok_goes {f : Addr} {fd : FuncData} {k : Nat} (F : Fun K "_law_goes_on" "_law_goes_on" sLGoes f fd) (B : Bn mg) : FnOk P w K mg base CX0 (k + 1) f fd ["_law_row_so", "_law_far", "_law_tag"] (spGoes K) := by
  refine F.ok scLGoes (fun vs H Q E h => ?_) (fun cdv A outer sh H vs Q E hr h => ?_)
  · obtain ⟨a, x, r, k, sk, tag, rfl, _⟩ := h
    rfl
  · obtain ⟨a, x, r, k, sk, tag, rfl, hT, hk, hm, hun, hsk, hrl, q⟩ := h
    refine ⟨_, pss_cons (ps_set (i := 3) scLGoes.nd rfl (.inl rfl) (pe_slice sl_list (pe_listZip rfl (by rfl) B.list (by rfl) B.zip (pa_cons (pv 0) (pa_cons (pe_slice sl_tupA (pv 0) (po_some pe_int) po_none) pa_nil))) (po_some (pe_op op_sub (pv 1) pe_int)) po_none))
      (pss_cons (ps_expr (pe_bm PySem.F.plainAttrs_list PySem.F.slot_list_remove PySem.F.type_list_remove (mt_removeD (hu65 hr)) (pv 3) (pa_cons (pe_tup (pa_cons (pe_ix ix_tup (pv 0) (pe_op op_sub (pv 1) pe_int) (fun _ _ => rfl)) (pa_cons (pv 2) pa_nil))) pa_nil)))
      (pss_cons (ps_asg (pe_tup (pa_cons (pe_lst (pa_cons (pv 2) pa_nil)) (pa_cons pe_bl pa_nil))) (pg_tup rfl (pgs_cons (pg_name (i := 4) scLGoes.nd rfl (.inr rfl)) (pgs_cons (pg_name (i := 5) scLGoes.nd rfl (.inl rfl)) pgs_nil))))
      (pss_cons (ps_while PassesOwn.never (pt_val (pv 5))
        (pss_cons (ps_setLc (i := 7) (own := [("_law_own", 6)]) (g := gName 6) (tt := tTest (tOp rNe (tOp (rIn K false) (tOp (rIxT K) (tVar 6) (tC (.int 0))) (tVar 4)) (tOp (rIn K false) (tOp (rIxT K) (tVar 6) (tC (.int 1))) (tVar 4)))) (by rfl) scLGoes.nd rfl rfl (sw_true rfl rfl rfl (by decide +kernel)) (pi_list (pv 3))
            (blkOk_by (own := [("_law_own", 6)]) (N := ["_law_row_so", "_law_far", "_law_tag", "_law_left_so", "_law_found", "_law_more_so", "_law_own", "_law_near", "_law_bit"]) (sc := defScope sLGoes) (by decide +kernel))
            (fun _ _ _ _ _ => pg_name (i := 6) scLGoes.nd rfl (Or.inl rfl)) (fun _ _ _ _ _ => pts_one (pt_cmpR op_ne (pe_cmpR op_in_seq (pe_ix ix_tup (pv 6) pe_int (fun _ _ => rfl)) (pv 4) rfl) (pe_cmpR op_in_seq (pe_ix ix_tup (pv 6) pe_int (fun _ _ => rfl)) (pv 4) rfl) (nomark _))) (fun _ _ _ _ _ => pv 6))
        (pss_cons (ps_set (i := 5) scLGoes.nd rfl (.inl rfl) (pe_cmpR (op_neD (hu64 hr)) (pv 7) (pe_lst pa_nil) (nomark _)))
        (pss_one (ps_for PassesOwn.never rfl (pi_list (pv 7)) (pg_name (i := 6) scLGoes.nd rfl (Or.inl rfl))
          (pss_one (ps_set (i := 4) scLGoes.nd rfl (Or.inr rfl) (pe_op op_cat (pv 4) (pe_lc (own := [("_law_bit", 8)]) (g := gName 8) (tt := tTest (tOp (rIn K true) (tVar 8) (tVar 4))) (by rfl) scLGoes.nd (pi_tup (pv 6))
            (blkOk_by (own := [("_law_bit", 8)]) (N := ["_law_row_so", "_law_far", "_law_tag", "_law_left_so", "_law_found", "_law_more_so", "_law_own", "_law_near", "_law_bit"]) (sc := defScope sLGoes) (by decide +kernel))
            (fun _ _ _ _ _ => pg_name (i := 8) scLGoes.nd rfl (Or.inl rfl)) (fun _ _ _ _ _ => pts_one (pt_cmpR op_notIn_seq (pv 8) (pv 4) rfl)) (fun _ _ _ _ _ => pv 8))))))))))
      (pss_one (ps_ret (pe_cmpR (op_eqD (hu64 hr)) (pe_lc (own := [("_law_own", 6)]) (g := gName 6) (tt := tTest (tOp (rIn K true) (tOp (rIxT K) (tVar 6) (tC (.int 0))) (tVar 4))) (by rfl) scLGoes.nd (pi_list (pv 3))
          (blkOk_by (own := [("_law_own", 6)]) (N := ["_law_row_so", "_law_far", "_law_tag", "_law_left_so", "_law_found", "_law_more_so", "_law_own", "_law_near", "_law_bit"]) (sc := defScope sLGoes) (by decide +kernel))
          (fun _ _ _ _ _ => pg_name (i := 6) scLGoes.nd rfl (Or.inl rfl)) (fun _ _ _ _ _ => pts_one (pt_cmpR op_notIn_seq (pe_ix ix_tup (pv 6) pe_int (fun _ _ => rfl)) (pv 4) rfl)) (fun _ _ _ _ _ => pv 6)) (pe_lst pa_nil) (nomark _))))))), ?_⟩
    have hE : (x :: r).zip ((x :: r).drop 1) = stp x r := by
      rw [show (x :: r).drop 1 = r from rfl, stp_zip]
    have hEl : (stp x r).length ≤ 30 := by rw [stp_length]; exact hrl
    have hkk : (k : Int) + 1 - 1 = (k : Int) := by omega
    have atk : atI ((x :: r).map V.str) ((k : Int) + 1 - 1) = some (.str sk) := by
      rw [hkk]
      exact atI_nat (by rw [List.getElem?_map, hk]; rfl)
    refine ⟨_, rfl, _, rfl, 1, rfl, noPart (sl_any hT fun p H1 s1 h1 => ?_)⟩
    rw [show cutV ((x :: r).map V.str) (some (1 : Int)) none = ((x :: r).drop 1).map V.str by rw [show (1 : Int) = ((1 : Nat) : Int) from rfl, cut_from, List.map_drop]] at h1
    refine ⟨a, p, _, _, rfl, Same.tup' s1 hT, h1, fun H2 pl pa s2 npl hpl z => ?_⟩
    have hA2 := zipd_pairs (K := K) z
    rw [hE] at hA2
    refine ⟨_, rfl, _, _, rfl, rfl, _, rfl, noPart ⟨pl, _, rfl, SqL.of hpl, fun ll nll => ?_⟩⟩
    rw [hkk, cut_from]
    have s12 := s1.trans s2
    have sl := same_upd (o := .lst ((pa.map V.ref).drop k)) nll
    have hAk : DpAll K (upd H2 ll (.lst ((pa.map V.ref).drop k))) ((pa.map V.ref).drop k) (((stp x r).drop k).map dPair) := by
      rw [List.map_drop (f := dPair)]
      exact dpAll_same sl _ _ (dpAll_drop k hA2)
    have hskE : ∀ e ∈ (stp x r).drop k, Sk e.1 ∧ Sk e.2 := fun e he => hsk e (List.mem_of_mem_drop he)
    have hunE : ∀ e ∈ (stp x r).drop k, e.1 ≠ e.2 := fun e he => hun e (List.mem_of_mem_drop he)
    have hEkl : ((stp x r).drop k).length ≤ 30 := by rw [List.length_drop]; omega
    generalize (stp x r).drop k = Ek at hm hAk hskE hunE hEkl q
    have nllH : H ll = none := s12.free nll
    -- left.remove(..)
    obtain ⟨j, hj1, hj2, hj3⟩ := erase_first hm
    refine ⟨_, rfl, .inl ⟨rfl, _, SqL.of upd_same⟩, _, rfl, _, rfl, _, _, rfl, rfl, a, _, _, _, rfl, rfl, Same.tup' (s12.trans sl) hT, atk, _, rfl, (by show 2 ≤ sizeLine; decide), fun T nT => ?_⟩
    have sT := same_upd (o := .tup [.str sk, .str tag]) nT
    have hll := sT _ _ (upd_same (H := H2) (a := ll) (o := .lst ((pa.map V.ref).drop k)))
    have hAT := dpAll_same sT _ _ hAk
    refine ⟨ll, _, _, _, dPair (sk, tag), dPair (sk, tag), j, rfl, rfl, hll, hAT, pair_dp (e := (sk, tag)) (SqT.of upd_same), fun d hd => ?_, sh_pair (hskE _ hm), by rw [List.getElem?_map, hj1]; rfl, by rw [eqv_pair]; exact decide_eq_true rfl, fun mm d' hmm hd' => ?_, ?_⟩
    · obtain ⟨e, he, rfl⟩ := List.mem_map.mp hd
      exact sh_pair (hskE e he)
    · rw [List.getElem?_map] at hd'
      cases he : Ek[mm]? with
      | none => rw [he] at hd'; cases hd'
      | some e =>
        rw [he] at hd'
        rw [← Option.some.inj hd', eqv_pair]
        exact decide_eq_false (hj2 mm e hmm he)
    have fr := fix_upd (ys := ((pa.map V.ref).drop k).eraseIdx j) hll
    have hAG : DpAll K (upd (upd (upd H2 ll (.lst ((pa.map V.ref).drop k))) T (.tup [.str sk, .str tag])) ll (.lst (((pa.map V.ref).drop k).eraseIdx j))) (((pa.map V.ref).drop k).eraseIdx j) ((Ek.erase (sk, tag)).map dPair) := by
      have z := dpAll_eraseIdx j hAT
      rw [erase_map, hj3] at z
      exact dpAll_fix fr _ _ (noLs_pairs _) z
    have hllG : (upd (upd (upd H2 ll (.lst ((pa.map V.ref).drop k))) T (.tup [.str sk, .str tag])) ll (.lst (((pa.map V.ref).drop k).eraseIdx j))) ll = some (.lst (((pa.map V.ref).drop k).eraseIdx j)) := upd_same
    have sG : Same H (upd (upd (upd H2 ll (.lst ((pa.map V.ref).drop k))) T (.tup [.str sk, .str tag])) ll (.lst (((pa.map V.ref).drop k).eraseIdx j))) := fun c o hc => by
      rw [upd_ne (ne_of_none hc nllH)]
      exact sT _ _ (sl _ _ (s12 _ _ hc))
    have hskG : SkP (Ek.erase (sk, tag)) := fun e he => hskE e (List.mem_of_mem_erase he)
    have hunG : ∀ e ∈ Ek.erase (sk, tag), e.1 ≠ e.2 := fun e he => hunE e (List.mem_of_mem_erase he)
    have hGl : (Ek.erase (sk, tag)).length ≤ 30 := Nat.le_trans (List.length_erase_le ..) hEkl
    generalize upd (upd (upd H2 ll (.lst ((pa.map V.ref).drop k))) T (.tup [.str sk, .str tag])) ll (.lst (((pa.map V.ref).drop k).eraseIdx j)) = H3 at hAG hllG sG
    generalize ((pa.map V.ref).drop k).eraseIdx j = vl at hAG hllG
    generalize Ek.erase (sk, tag) = G at hAG hskG hunG hGl q
    have hvll : vl.length = G.length := by rw [dpAll_len hAG, List.length_map]
    -- found, more = ([tag], True)
    refine ⟨_, rfl, (by show 1 ≤ sizeLine; decide), fun lf nlf => ⟨(by show 2 ≤ sizeLine; decide), fun T2 nT2 => ⟨T2, _, rfl, SqT.of upd_same, rfl, _, _, rfl, _, _, rfl, rfl, ?_⟩⟩⟩
    have sf := same_upd (o := .lst [.str tag]) nlf
    have sT2 := same_upd (o := .tup [.ref lf, .bl true]) nT2
    have s34 := sf.trans sT2
    refine ⟨fun m σ H' => ∃ (mo : Bool) (fs : List Str) (pf : Addr) (x6 x7 : Option V), m = (if mo = true then 1 else 0) + missing G fs ∧ GW K H a k tag ll vl G mo fs pf x6 x7 σ H',
      ⟨_, true, [tag], lf, none, none, rfl, ⟨rfl, sG.trans s34, s34 _ _ hllG, dpAll_same s34 _ _ hAG, sT2 _ _ upd_same, ⟨List.mem_cons_self, fun y hy => by rw [List.mem_singleton.mp hy]; exact .refl, by simp, fun y hy => by rw [List.mem_singleton.mp hy]; exact List.mem_cons_self⟩, fun z => (by cases z)⟩⟩, ?_⟩
    rintro m σ H4 ⟨mo, fs, pf, x6, x7, rfl, ⟨rfl, s4, hll4, hA4, hpf, hF, hcl⟩⟩
    have hfl := fs_len hF
    have at0 : ∀ {e : Str × Str}, atI [V.str e.1, .str e.2] 0 = some (.str e.1) := fun {e} => atI_nat (j := 0) rfl
    have at1 : ∀ {e : Str × Str}, atI [V.str e.1, .str e.2] 1 = some (.str e.2) := fun {e} => atI_nat (j := 1) rfl
    refine ⟨_, rfl, mo, rfl, ?_⟩
    cases mo with
    | false =>
      have hcl := hcl rfl
      refine iteF ?_
      refine ⟨_, rfl, ll, rfl, ⟨_, SqL.of hll4⟩, fun D nD => ?_⟩
      refine lc_list (K := K) (a := ll) (xs := vl) (fun i H' => Same H4 H' ∧ ∃ vs : List V, H' D = some (.lst vs) ∧ vs.length ≤ i ∧ DpAll K H' vs (((G.take i).filter fun e => decide (e.1 ∉ fs)).map dPair)) ⟨same_upd nD, [], upd_same, Nat.le_refl _, .nil⟩ (fun i H' _ h => h.1.seq (SqL.of hll4)) ?_ ?_
      · rintro i y H' hy ⟨sH, vs, hD, hvl', hdp⟩
        obtain ⟨e, p', hei, hem, rfl, hp'⟩ := pair_at hA4 hy
        have hpH := Same.tup' sH hp'
        have hil := (List.getElem?_eq_some_iff.mp hei).1
        refine ⟨rfl, _, rfl, p', _, _, _, rfl, rfl, hpH, at0, _, rfl, pf, _, rfl, .inl (SqL.of (sH _ _ hpf)), rfl, flat_strs' _, _, rfl, ?_⟩
        rw [inV_strs]
        by_cases hin : e.1 ∈ fs
        · rw [decide_eq_true hin]
          refine iteF ⟨sH, vs, hD, by omega, ?_⟩
          rw [take_snoc hei, List.filter_append, show ([e].filter fun e => decide (e.1 ∉ fs)) = [] by simp [hin], List.append_nil]
          exact hdp
        · rw [decide_eq_false hin]
          have fx : Fix H' (upd H' D (.lst (vs ++ [.ref p']))) := fix_upd hD
          refine iteT ⟨_, rfl, vs, hD, by rw [sizeLine_eq]; omega, fun c o hc => ?_, _, upd_same, by rw [List.length_append]; exact Nat.succ_le_succ hvl', ?_⟩
          · rw [upd_ne (ne_of_none hc nD)]
            exact sH _ _ hc
          · rw [take_snoc hei, List.filter_append, show ([e].filter fun e => decide (e.1 ∉ fs)) = [e] by simp [hin], List.map_append]
            exact dpAll_app (dpAll_fix fx _ _ (noLs_pairs _) hdp) (.cons (dp_fix fx _ _ (noL_row [e.1, e.2]) (pair_dp hpH)) .nil)
      · rintro H5 ⟨s5, vs, hD, hvl', hdp⟩
        rw [take_all (xs := G) (n := vl.length) (by omega)] at hdp
        refine ⟨Nat.zero_le _, fun l0 n0 => ?_⟩
        have t0 := same_upd (o := .lst []) n0
        refine ⟨.list (((G.filter fun e : Str × Str => decide (e.1 ∉ fs))).map dPair), .list [], .lst (SqL.of (t0 _ _ hD)) (dpAll_same t0 _ _ hdp), .lst (SqL.of upd_same) .nil, sh_pairs (fun e he => hskG e (List.mem_filter.mp he).1), sh_nilL, ?_⟩
        rw [eqv_nilL]
        refine q _ _ ((s4.trans s5).trans t0) ?_
        rw [← closed_conn hF hcl]
        constructor
        · intro z e he
          apply Classical.byContradiction
          intro hn
          have hmem : e ∈ G.filter fun e => decide (e.1 ∉ fs) := List.mem_filter.mpr ⟨he, decide_eq_true hn⟩
          cases hfe : G.filter fun e => decide (e.1 ∉ fs) with
          | nil => rw [hfe] at hmem; simp at hmem
          | cons _ _ => rw [hfe] at z; simp at z
        · intro z
          have : (G.filter fun e => decide (e.1 ∉ fs)) = [] := List.filter_eq_nil_iff.mpr fun e he => by
            have := z e he
            simpa using this
          rw [this]
          rfl
    | true =>
      refine iteT ⟨fun σ' H' => ∃ (mo : Bool) (fs' : List Str) (pf : Addr) (x6 x7 : Option V), (if mo = true then 1 else 0) + missing G fs' < (if true = true then 1 else 0) + missing G fs ∧ GW K H a k tag ll vl G mo fs' pf x6 x7 σ' H', ?_, ?_⟩
      · rintro σ' H' ⟨mo, fs', pf', y6, y7, hlt, hW⟩
        exact ⟨_, hlt, mo, fs', pf', y6, y7, rfl, hW⟩
      -- near
      refine ⟨_, rfl, ll, rfl, ⟨_, SqL.of hll4⟩, fun D nD => ?_⟩
      refine lc_list (K := K) (a := ll) (xs := vl) (fun i H' => Same H4 H' ∧ ∃ vs : List V, H' D = some (.lst vs) ∧ vs.length ≤ i ∧ DpAll K H' vs (((G.take i).filter (half fs)).map dPair)) ⟨same_upd nD, [], upd_same, Nat.le_refl _, .nil⟩ (fun i H' _ h => h.1.seq (SqL.of hll4)) ?_ ?_
      · rintro i y H' hy ⟨sH, vs, hD, hvl', hdp⟩
        obtain ⟨e, p', hei, hem, rfl, hp'⟩ := pair_at hA4 hy
        have hpH := Same.tup' sH hp'
        have hil := (List.getElem?_eq_some_iff.mp hei).1
        have hpfH := SqL.of (K := K) (sH _ _ hpf)
        refine ⟨rfl, _, rfl, p', _, _, _, rfl, rfl, hpH, at0, _, rfl, pf, _, rfl, .inl hpfH, rfl, flat_strs' _, _, rfl, p', _, _, _, rfl, rfl, hpH, at1, _, rfl, pf, _, rfl, .inl hpfH, rfl, flat_strs' _, rfl, _, rfl, ?_⟩
        rw [inV_strs, inV_strs]
        show if (!decide (V.bl (decide (e.1 ∈ fs)) = V.bl (decide (e.2 ∈ fs)))) = true then _ else _
        have hv : (!decide (V.bl (decide (e.1 ∈ fs)) = V.bl (decide (e.2 ∈ fs)))) = half fs e := by
          unfold half
          congr 1
          exact decide_eq_decide.mpr ⟨fun z => V.bl.inj z, fun z => by rw [z]⟩
        rw [hv]
        cases hh : half fs e with
        | false =>
          refine iteF ⟨sH, vs, hD, by omega, ?_⟩
          rw [take_snoc hei, List.filter_append, show ([e].filter (half fs)) = [] by simp [hh], List.append_nil]
          exact hdp
        | true =>
          have fx : Fix H' (upd H' D (.lst (vs ++ [.ref p']))) := fix_upd hD
          refine iteT ⟨_, rfl, vs, hD, by rw [sizeLine_eq]; omega, fun c o hc => ?_, _, upd_same, by rw [List.length_append]; exact Nat.succ_le_succ hvl', ?_⟩
          · rw [upd_ne (ne_of_none hc nD)]
            exact sH _ _ hc
          · rw [take_snoc hei, List.filter_append, show ([e].filter (half fs)) = [e] by simp [hh], List.map_append]
            exact dpAll_app (dpAll_fix fx _ _ (noLs_pairs _) hdp) (.cons (dp_fix fx _ _ (noL_row [e.1, e.2]) (pair_dp hpH)) .nil)
      rintro H5 ⟨s5, vn, hD, hvl', hdn⟩
      rw [take_all (xs := G) (n := vl.length) (by omega)] at hdn
      have hnear : ∀ e ∈ G.filter (half fs), e ∈ G ∧ half fs e = true := fun e he => List.mem_filter.mp he
      have hempty : G.filter (half fs) = [] → ∀ e ∈ G, e.1 ∈ fs ↔ e.2 ∈ fs := fun hz e he => by
        apply Classical.byContradiction
        intro hn
        have := List.filter_eq_nil_iff.mp hz e he
        exact this (half_iff.mpr hn)
      have hnl : (G.filter (half fs)).length ≤ 30 := Nat.le_trans (List.length_filter_le _ _) hGl
      generalize G.filter (half fs) = near at hdn hnear hempty hnl
      -- more = near != []
      refine ⟨_, rfl, Nat.zero_le _, fun l0 n0 => ?_⟩
      have t0 := same_upd (o := .lst []) n0
      refine ⟨.list (near.map dPair), .list [], .lst (SqL.of (t0 _ _ hD)) (dpAll_same t0 _ _ hdn), .lst (SqL.of upd_same) .nil, sh_pairs (fun e he => hskG e (hnear e he).1), sh_nilL, ?_⟩
      rw [eqv_nilL]
      have s45 := s5.trans t0
      have hD6 := t0 _ _ hD
      have hdn6 := dpAll_same t0 _ _ hdn
      have hvnl : vn.length = near.length := by rw [dpAll_len hdn, List.length_map]
      -- for own in near
      refine ⟨_, rfl, D, rfl, ⟨_, SqL.of hD6⟩, L2.for_list (K := K) (a := D) (xs := vn) (fun i σ H' => ∃ (fs' : List Str) (pf' : Addr) (y6 : Option V), σ = [some (.ref a), some (.int ((k : Int) + 1)), some (.str tag), some (.ref ll), some (.ref pf'), some (.bl (!(near.map dPair).isEmpty)), y6, some (.ref D), none] ∧ Same (upd H5 l0 (.lst [])) H' ∧ H' pf' = some (.lst (fs'.map V.str)) ∧ FsOk tag G fs' ∧ (∀ x ∈ fs, x ∈ fs') ∧ (∀ e ∈ near.take i, e.1 ∈ fs' ∧ e.2 ∈ fs') ∧ (near = [] → fs' = fs))
        ⟨fs, pf, x6, rfl, Same.refl _, s45 _ _ hpf, hF, fun x hx => hx, fun e he => by simp at he, fun _ => rfl⟩ (fun i σ H' _ h => ?_) ?_ ?_⟩
      · obtain ⟨_, _, _, _, hs, _⟩ := h
        exact hs.seq (SqL.of hD6)
      · rintro i y σ H' hy ⟨fs', pf', y6, rfl, sH, hpf', hF', hsub, hdone, hnil⟩
        obtain ⟨e, p', hei, hem, rfl, hp'⟩ := pair_at hdn6 hy
        have hpH := Same.tup' sH hp'
        obtain ⟨heG, hhe⟩ := hnear e hem
        have hfl' := fs_len hF'
        refine ⟨_, rfl, _, rfl, p', rfl, ⟨_, hpH⟩, fun D2 nD2 => ?_⟩
        have hpH2 : SqT K H' p' ([e.1, e.2].map V.str) := hpH
        refine lc_tup (K := K) (a := p') (xs := [V.str e.1, .str e.2]) (fun j H'' => Same H' H'' ∧ H'' D2 = some (.lst ((([e.1, e.2].take j).filter fun x => decide (x ∉ fs')).map V.str))) ⟨same_upd nD2, upd_same⟩ (fun j H'' _ h => Same.tup' h.1 hpH) ?_ ?_
        · rintro j y H'' hj ⟨sJ, hD2⟩
          have hj' : ([e.1, e.2].map V.str)[j]? = some y := hj
          obtain ⟨z, hz, rfl⟩ := str_at hj'
          refine ⟨rfl, _, rfl, _, rfl, pf', _, rfl, .inl (SqL.of (sJ _ _ hpf')), rfl, flat_strs' _, _, rfl, ?_⟩
          rw [inV_strs]
          by_cases hin : z ∈ fs'
          · rw [decide_eq_true hin]
            refine iteF ⟨sJ, ?_⟩
            rw [hD2, take_snoc hz, List.filter_append, show ([z].filter fun x => decide (x ∉ fs')) = [] by simp [hin], List.append_nil]
          · rw [decide_eq_false hin]
            refine iteT ⟨_, rfl, _, hD2, ?_, fun c o hc => ?_, ?_⟩
            · rw [List.length_map]
              have z1 := List.length_filter_le (fun x => decide (x ∉ fs')) ([e.1, e.2].take j)
              rw [List.length_take] at z1
              have z2 : ([e.1, e.2] : List Str).length = 2 := rfl
              rw [sizeLine_eq]; omega
            · rw [upd_ne (ne_of_none hc nD2)]
              exact sJ _ _ hc
            · rw [upd_same, take_snoc hz, List.filter_append, show ([z].filter fun x => decide (x ∉ fs')) = [z] by simp [hin], List.map_append]
              rfl
        · rintro H7 ⟨s7, hD7⟩
          rw [show ([e.1, e.2] : List Str).take [V.str e.1, V.str e.2].length = [e.1, e.2] from rfl] at hD7
          obtain ⟨g1, g2, g3, g4⟩ := grow_ok (fs0 := fs) hF' heG (hunG e heG) hsub hhe
          refine ⟨pf', D2, _, _, rfl, rfl, s7 _ _ hpf', hD7, ?_, fun p9 n9 => ?_⟩
          · have z1 := List.length_filter_le (fun x => decide (x ∉ fs')) [e.1, e.2]
            have z2 : ([e.1, e.2] : List Str).length = 2 := rfl
            rw [List.length_map, List.length_map, sizeLine_eq]; omega
          · refine ⟨grow fs' e, p9, _, rfl, (sH.trans s7).trans (same_upd n9), ?_, g1, fun x hx => g2 x (hsub x hx), mem_take_iff hei (fun e' he' => ⟨g2 _ (hdone e' he').1, g2 _ (hdone e' he').2⟩) ⟨g3, g4⟩, fun z => ?_⟩
            · rw [upd_same]
              unfold grow
              rw [List.map_append]
            · rw [z] at hem
              simp at hem
      · rintro σ H' ⟨fs', pf', y6, rfl, sH, hpf', hF', hsub, hdone, hnil⟩
        rw [take_all (xs := near) (n := vn.length) (by omega)] at hdone
        have s46 := (s4.trans s45).trans sH
        refine ⟨_, fs', pf', y6, some (.ref D), ?_, ⟨rfl, s46, (s45.trans sH) _ _ hll4, dpAll_same (s45.trans sH) _ _ hA4, hpf', hF', fun z => ?_⟩⟩
        · cases near with
          | nil =>
            rw [hnil rfl]
            show 0 + missing G fs < 1 + missing G fs
            omega
          | cons e nr =>
            show 1 + missing G fs' < 1 + missing G fs
            obtain ⟨h1, h2⟩ := hdone e List.mem_cons_self
            obtain ⟨h3, h4⟩ := hnear e List.mem_cons_self
            have h4 := half_iff.mp h4
            by_cases c1 : e.1 ∈ fs
            · have c2 : e.2 ∉ fs := fun c2 => h4 ⟨fun _ => c2, fun _ => c1⟩
              have := missing_lt (G := G) hsub (mem_spots.mpr ⟨e, h3, .inr rfl⟩) c2 h2
              omega
            · have := missing_lt (G := G) hsub (mem_spots.mpr ⟨e, h3, .inl rfl⟩) c1 h1
              omega
        · cases near with
          | nil =>
            rw [hnil rfl]
            exact hempty rfl
          | cons e nr => simp at z
end
end K76
set_option Elab.async false
set_option linter.all false
set_option maxRecDepth 100000
/-! Plain mathematics: the sure beginning, computed. -/
namespace K76
open PySem
def spread (G : List (Str × Str)) : Nat → List Str → List Str
  | 0, fs => fs
  | n + 1, fs => spread G n (G.foldl (fun fs e => if half fs e = true then grow fs e else fs) fs)
theorem spread_re {tag : Str} {G : List (Str × Str)} : ∀ (n : Nat) (fs : List Str), tag ∈ fs → (∀ y ∈ fs, Reach G tag y) → tag ∈ spread G n fs ∧ ∀ y ∈ spread G n fs, Reach G tag y
  | 0, fs, h1, h2 => ⟨h1, h2⟩
  | n + 1, fs, h1, h2 => by
    have key : ∀ (L : List (Str × Str)) (fs : List Str), (∀ e ∈ L, e ∈ G) → tag ∈ fs → (∀ y ∈ fs, Reach G tag y) → tag ∈ L.foldl (fun fs e => if half fs e = true then grow fs e else fs) fs ∧ ∀ y ∈ L.foldl (fun fs e => if half fs e = true then grow fs e else fs) fs, Reach G tag y := by
      intro L
      induction L with
      | nil => intro fs _ h1 h2; exact ⟨h1, h2⟩
      | cons e L ih =>
        intro fs hL h1 h2
        rw [List.foldl_cons]
        refine ih _ (fun x hx => hL x (List.mem_cons_of_mem _ hx)) ?_ ?_
        · by_cases hh : half fs e = true
          · rw [if_pos hh]; exact List.mem_append.mpr (.inl h1)
          · rw [if_neg hh]; exact h1
        · by_cases hh : half fs e = true
          · rw [if_pos hh]
            have he := hL e List.mem_cons_self
            have re : Reach G tag e.1 ∧ Reach G tag e.2 := by
              have hn := half_iff.mp hh
              by_cases c1 : e.1 ∈ fs
              · exact ⟨h2 _ c1, (h2 _ c1).trans (Reach.one he)⟩
              · have c2 : e.2 ∈ fs := by
                  apply Classical.byContradiction
                  intro c2
                  exact hn ⟨fun z => absurd z c1, fun z => absurd z c2⟩
                exact ⟨(h2 _ c2).trans (Reach.eno he), h2 _ c2⟩
            intro y hy
            rcases List.mem_append.mp hy with z | z
            · exact h2 y z
            · have := (List.mem_filter.mp z).1
              have : y = e.1 ∨ y = e.2 := by simpa using this
              rcases this with z | z
              · rw [z]; exact re.1
              · rw [z]; exact re.2
          · rw [if_neg hh]; exact h2
    obtain ⟨a, b⟩ := key G fs (fun e he => he) h1 h2
    exact spread_re n _ a b
def connB (tag : Str) (G : List (Str × Str)) : Option Bool :=
  let fs := spread G G.length [tag]
  if (G.all fun e => decide (decide (e.1 ∈ fs) = decide (e.2 ∈ fs))) = true then some (G.all fun e => decide (e.1 ∈ fs)) else none
theorem connB_spec {tag : Str} {G : List (Str × Str)} {b : Bool} (h : connB tag G = some b) : b = true ↔ Conn tag G := by
  unfold connB at h
  obtain ⟨h1, h2⟩ := spread_re (tag := tag) (G := G) G.length [tag] List.mem_cons_self (fun y hy => by rw [List.mem_singleton.mp hy]; exact .refl)
  dsimp only at h
  split at h
  · rename_i hc
    have hb := Option.some.inj h
    rw [← hb, List.all_eq_true]
    constructor
    · intro z e he
      exact h2 _ (of_decide_eq_true (z e he))
    · intro c e he
      refine decide_eq_true (Reach.kept (P := fun y => y ∈ spread G G.length [tag]) (c e he) (fun a b hab => ?_) h1)
      have := of_decide_eq_true (List.all_eq_true.mp hc (a, b) hab)
      exact decide_eq_decide.mp this
  · cases h
def hadB (s : Str) (E : List (Str × Str)) : Option Bool :=
  match connB s E with
  | some c => some (c && (s :: spots E).all fun v => decide (outs E v ≤ inns E v + one (s = v)) && decide (inns E v ≤ outs E v + 1))
  | none => none
theorem off_spots {E : List (Str × Str)} {v : Str} (h : v ∉ spots E) : outs E v = 0 ∧ inns E v = 0 := by
  constructor
  · apply Classical.byContradiction
    intro z
    obtain ⟨e, he, hx⟩ := List.countP_pos_iff.mp (Nat.pos_of_ne_zero z)
    exact h (mem_spots.mpr ⟨e, he, .inl (of_decide_eq_true hx).symm⟩)
  · apply Classical.byContradiction
    intro z
    obtain ⟨e, he, hx⟩ := List.countP_pos_iff.mp (Nat.pos_of_ne_zero z)
    exact h (mem_spots.mpr ⟨e, he, .inr (of_decide_eq_true hx).symm⟩)
theorem hadB_spec {s : Str} {E : List (Str × Str)} {b : Bool} (h : hadB s E = some b) : b = true ↔ Had s E := by
  unfold hadB at h
  cases hc : connB s E with
  | none => rw [hc] at h; cases h
  | some c =>
    rw [hc] at h
    have hb := Option.some.inj h
    rw [← hb, Bool.and_eq_true, List.all_eq_true, connB_spec hc]
    constructor
    · rintro ⟨h1, h2⟩
      have key : ∀ v, outs E v ≤ inns E v + one (s = v) ∧ inns E v ≤ outs E v + 1 := fun v => by
        by_cases hv : v ∈ s :: spots E
        · have := h2 v hv
          rw [Bool.and_eq_true] at this
          exact ⟨of_decide_eq_true this.1, of_decide_eq_true this.2⟩
        · obtain ⟨z1, z2⟩ := off_spots (E := E) (v := v) fun z => hv (List.mem_cons_of_mem _ z)
          rw [z1, z2]
          exact ⟨Nat.zero_le _, Nat.zero_le _⟩
      exact ⟨fun v => (key v).1, fun v => (key v).2, h1⟩
    · intro hh
      refine ⟨hh.con, fun v _ => ?_⟩
      rw [Bool.and_eq_true]
      exact ⟨decide_eq_true (hh.up v), decide_eq_true (hh.dn v)⟩
/-- the open steps of ps -/
def opnB (s : Str) (E : List (Str × Str)) : List Str → Option (List Str)
  | [] => some []
  | p :: ps => match opnB s E ps, hadB p (E.erase (s, p)) with
    | some r, some b => some (if b = true ∧ p ∉ r then p :: r else r)
    | _, _ => none
theorem opnB_spec {s : Str} {E : List (Str × Str)} : ∀ {ps r : List Str}, opnB s E ps = some r → (∀ p ∈ ps, (s, p) ∈ E) → r.Nodup ∧ ∀ p, p ∈ r ↔ p ∈ ps ∧ Opn s E p
  | [], r, h, _ => by
    cases Option.some.inj h
    exact ⟨List.nodup_nil, fun p => by simp⟩
  | q :: ps, r, h, hE => by
    unfold opnB at h
    cases h1 : opnB s E ps with
    | none => rw [h1] at h; cases h
    | some r1 =>
      rw [h1] at h
      cases h2 : hadB q (E.erase (s, q)) with
      | none => rw [h2] at h; cases h
      | some b =>
        rw [h2] at h
        have hr := Option.some.inj h
        obtain ⟨i1, i2⟩ := opnB_spec h1 fun p hp => hE p (List.mem_cons_of_mem _ hp)
        have hb := hadB_spec h2
        have hq := hE q List.mem_cons_self
        by_cases hc : b = true ∧ q ∉ r1
        · rw [if_pos hc] at hr
          rw [← hr]
          refine ⟨List.nodup_cons.mpr ⟨hc.2, i1⟩, fun p => ?_⟩
          rw [List.mem_cons, List.mem_cons, i2]
          constructor
          · rintro (z | z)
            · rw [z]; exact ⟨.inl rfl, hq, hb.1 hc.1⟩
            · exact ⟨.inr z.1, z.2⟩
          · rintro ⟨z | z, o⟩
            · exact .inl z
            · exact .inr ⟨z, o⟩
        · rw [if_neg hc] at hr
          rw [← hr]
          refine ⟨i1, fun p => ?_⟩
          rw [i2, List.mem_cons]
          constructor
          · rintro ⟨z, o⟩
            exact ⟨.inr z, o⟩
          · rintro ⟨z | z, o⟩
            · subst z
              refine ⟨?_, o⟩
              have hbt := hb.2 o.2
              have : p ∈ r1 := Classical.byContradiction fun w => hc ⟨hbt, w⟩
              exact ((i2 p).1 this).1
            · exact ⟨z, o⟩
def sbB : Nat → Str → List (Str × Str) → Option (List Str)
  | 0, _, _ => none
  | n + 1, s, E => match opnB s E ((E.filter fun e => decide (e.1 = s)).map (·.2)) with
    | some [p] => (sbB n p (E.erase (s, p))).map (s :: ·)
    | some _ => some [s]
    | none => none
theorem sbB_spec : ∀ {n : Nat} {s : Str} {E : List (Str × Str)} {w : List Str}, sbB n s E = some w → SB s E w
  | 0, _, _, _, h => by cases h
  | n + 1, s, E, w, h => by
    unfold sbB at h
    have hE : ∀ p ∈ (E.filter fun e => decide (e.1 = s)).map (·.2), (s, p) ∈ E := fun p hp => by
      obtain ⟨e, he, rfl⟩ := List.mem_map.mp hp
      obtain ⟨h1, h2⟩ := List.mem_filter.mp he
      have : e.1 = s := of_decide_eq_true h2
      rw [← this]
      exact h1
    have hall : ∀ p, (s, p) ∈ E → p ∈ (E.filter fun e => decide (e.1 = s)).map (·.2) := fun p hp => List.mem_map.mpr ⟨(s, p), List.mem_filter.mpr ⟨hp, decide_eq_true rfl⟩, rfl⟩
    cases ho : opnB s E ((E.filter fun e => decide (e.1 = s)).map (·.2)) with
    | none => rw [ho] at h; cases h
    | some r =>
      rw [ho] at h
      obtain ⟨nd, hm⟩ := opnB_spec ho hE
      have hm' : ∀ p, p ∈ r ↔ Opn s E p := fun p => by
        rw [hm]
        exact ⟨fun z => z.2, fun z => ⟨hall p z.1, z⟩⟩
      match r, nd, hm', h with
      | [], nd, hm', h =>
        cases Option.some.inj h
        exact .stop fun ⟨p, o, _⟩ => by
          have := (hm' p).2 o
          simp at this
      | [p], nd, hm', h =>
        have h' : (sbB n p (E.erase (s, p))).map (s :: ·) = some w := h
        cases hs : sbB n p (E.erase (s, p)) with
        | none => rw [hs] at h'; cases h'
        | some w' =>
          rw [hs] at h'
          cases Option.some.inj h'
          exact .go ((hm' p).1 List.mem_cons_self) (fun q hq => List.mem_singleton.mp ((hm' q).2 hq)) (sbB_spec hs)
      | p :: p' :: r', nd, hm', h =>
        cases Option.some.inj h
        refine .stop fun ⟨q, o, u⟩ => ?_
        have e1 := u p ((hm' p).1 (by simp))
        have e2 := u p' ((hm' p').1 (by simp))
        rw [List.nodup_cons] at nd
        exact nd.1 (by rw [e1, ← e2]; simp)
/-! ### the eight by hand -/
def ca : Str := "a"
def cb : Str := "b"
def cc : Str := "c"
def cd : Str := "d"
def cq : Str := "q"
def cx : Str := "x"
def cy : Str := "y"
def r1 : List Str := [ca, cb, ca, cc, ca, cy]
theorem sb1 : SB cx (stp cx r1) [cx, ca] := sbB_spec (n := 3) (by decide +kernel)
theorem sb1e : SB (lst cx r1) ((stp cx r1).map sw) [cy, ca] := sbB_spec (n := 3) (by decide +kernel)
def r2 : List Str := [cb, ca, cc, ca]
theorem sb2 : SB ca (stp ca r2) [ca] := sbB_spec (n := 3) (by decide +kernel)
theorem sb3 : SB (lst cq []) ((stp cq []).map sw) [cq] := sbB_spec (n := 3) (by decide +kernel)
def t4 : List Tri := [(ca, cb, 9), (cb, ca, 9)]
def w4 : List Str := [ca, cb, ca, cb, ca, cb, ca, cb, ca, cb, ca, cb, ca, cb, ca, cb, ca, cb, ca]
theorem sb4 : SB ca (exp t4) w4 := sbB_spec (n := 20) (by decide +kernel)
theorem had4 : Had ca (exp t4) := (hadB_spec (b := true) (by decide +kernel)).1 rfl
theorem eok4 : EOk (exp t4) := ⟨by decide +kernel, by decide +kernel⟩
def r5 : List Str := [cb, cc, cb]
theorem sb5 : SB (lst ca r5) ((stp ca r5).map sw) [cb, cc, cb, ca] := sbB_spec (n := 6) (by decide +kernel)
def t6 : List Tri := [(ca, cb, 1), (cb, ca, 1), (ca, cd, 1)]
theorem sb6 : SB ca (exp t6) [ca, cb, ca, cd] := sbB_spec (n := 6) (by decide +kernel)
theorem had6 : Had ca (exp t6) := (hadB_spec (b := true) (by decide +kernel)).1 rfl
theorem eok6 : EOk (exp t6) := ⟨by decide +kernel, by decide +kernel⟩
def t7 : List Tri := [(ca, cb, 2), (ca, cc, 1), (cb, ca, 2), (cc, ca, 1)]
def r7 : List Str := [cb, ca, cb, ca, cc, ca]
theorem perm7 : (stp ca r7).Perm (exp t7) := by
  rw [← List.isPerm_iff]
  decide +kernel
theorem sb7 : SB (lst ca r7) ((exp t7).map sw) [ca] := sbB_spec (n := 3) (by decide +kernel)
theorem eok7 : EOk (exp t7) := ⟨by decide +kernel, by decide +kernel⟩
theorem eok1 : EOk (stp cx r1) := ⟨by decide +kernel, by decide +kernel⟩
theorem eok2 : EOk (stp ca r2) := ⟨by decide +kernel, by decide +kernel⟩
theorem eok5 : EOk (stp ca r5) := ⟨by decide +kernel, by decide +kernel⟩
end K76
set_option Elab.async false
set_option linter.all false
set_option maxRecDepth 100000
/-! Plain mathematics: what the law compares. -/
namespace K76
open PySem
theorem lst_uniq {s : Str} {r r1 : List Str} {E : List (Str × Str)} (h : (stp s r).Perm E) (h1 : (stp s r1).Perm E) : lst s r = lst s r1 := by
  have b := (bal_stp r s).perm h
  have b1 := (bal_stp r1 s).perm h1
  have z := b (lst s r)
  have z1 := b1 (lst s r)
  rw [one_self] at z
  apply Classical.byContradiction
  intro hn
  rw [one_ne (fun e => hn e.symm)] at z1
  omega
theorem jl {s : Str} {r : List Str} {E : List (Str × Str)} (h : (stp s r).Perm E) : (s :: r).length = E.length + 1 := by
  rw [← h.length_eq, stp_length]
  rfl
theorem short_eq {s : Str} {E : List (Str × Str)} {w h : List Str} {qr : List (List Str)} {k : Nat} (hw : SB s E w) (hm : ∀ q, q ∈ h :: qr ↔ ∃ r, q = s :: r ∧ (stp s r).Perm E) (L : Lcp (h :: qr) h k) : h.take k = w := by
  obtain ⟨r0, hh, p0⟩ := (hm h).1 List.mem_cons_self
  obtain ⟨a1, a2⟩ := hw.shared r0 p0
  have hl : h.length = E.length + 1 := by rw [hh]; exact jl p0
  have hwt : h.take w.length = w := by rw [hh]; exact a1 _ p0
  have hwl : w.length ≤ E.length + 1 := by
    have := congrArg List.length hwt
    rw [List.length_take, hl] at this
    omega
  have hk := (L.le h List.mem_cons_self).1
  have tk : ∀ q ∈ h :: qr, ∀ m, m ≤ w.length → q.take m = h.take m := fun q hq m hmw => by
    obtain ⟨r, rfl, pq⟩ := (hm q).1 hq
    have e1 := a1 r pq
    have e2 : (s :: r).take m = w.take m := by rw [← e1, List.take_take, Nat.min_eq_left hmw]
    have e3 : (h.take w.length).take m = h.take m := by rw [List.take_take, Nat.min_eq_left hmw]
    rw [hwt] at e3
    exact e2.trans e3
  have hkw : k = w.length := by
    rcases Nat.lt_trichotomy k w.length with z | z | z
    · exfalso
      rcases L.mx with ⟨q, hq, hql⟩ | ⟨q, hq, hne⟩
      · obtain ⟨r, rfl, pq⟩ := (hm q).1 hq
        have := jl pq
        omega
      · exact hne (tk q hq _ z)
    · exact z
    · exfalso
      rcases a2 with a2 | ⟨q, q', b1, b2, b3⟩
      · omega
      · have c1 := (L.le _ ((hm _).2 ⟨q, rfl, b1⟩)).2
        have c2 := (L.le _ ((hm _).2 ⟨q', rfl, b2⟩)).2
        have d1 := congrArg (List.take (w.length + 1)) c1
        have d2 := congrArg (List.take (w.length + 1)) c2
        rw [List.take_take, List.take_take, Nat.min_eq_left (by omega)] at d1 d2
        exact b3 (d1.trans d2.symm)
  rw [hkw, hwt]
theorem turn_back {s : Str} {r r' : List Str} (h : (s :: r).reverse = lst s r :: r') : lst (lst s r) r' = s := by
  have h2 := turn_stp r' (lst s r)
  obtain ⟨r'', e, _⟩ := h2
  rw [← h, List.reverse_reverse] at e
  exact (List.cons.inj e).1.symm
theorem rev_mem {s : Str} {E : List (Str × Str)} {qs : List (List Str)} {r : List Str} (hr : (stp s r).Perm E) (hm : ∀ q, q ∈ qs ↔ ∃ r, q = s :: r ∧ (stp s r).Perm E) (q : List Str) :
    q ∈ qs.map List.reverse ↔ ∃ r', q = lst s r :: r' ∧ (stp (lst s r) r').Perm (E.map sw) := by
  constructor
  · intro h
    obtain ⟨p, hp, rfl⟩ := List.mem_map.mp h
    obtain ⟨r1, rfl, p1⟩ := (hm p).1 hp
    obtain ⟨r', e1, e2⟩ := turn_perm p1
    rw [lst_uniq p1 hr] at e1 e2
    exact ⟨r', e1, e2⟩
  · rintro ⟨r', rfl, hp⟩
    obtain ⟨r0, f1, f2⟩ := turn_perm hr
    obtain ⟨r'', e1, e2⟩ := turn_perm hp
    rw [sw_sw, lst_uniq hp f2, turn_back f1] at e2
    rw [lst_uniq hp f2, turn_back f1] at e1
    refine List.mem_map.mpr ⟨s :: r'', (hm _).2 ⟨r'', rfl, e2⟩, ?_⟩
    rw [← e1, List.reverse_reverse]
theorem long_eq {s : Str} {r w : List Str} (hw : SB s (stp s r) w) : (s :: r).take w.length = w := (hw.along r (List.Perm.refl _)).1.symm
theorem back_eq {s : Str} {r w : List Str} (hw : SB (lst s r) ((stp s r).map sw) w) : (s :: r).drop ((s :: r).length - w.length) = w.reverse ∧ w.length ≤ (s :: r).length := by
  obtain ⟨r', e1, e2⟩ := turn_perm (List.Perm.refl (stp s r))
  have z := (hw.along r' e2).1
  rw [← e1] at z
  have l : w.length ≤ (s :: r).length := by
    have := congrArg List.length z
    rw [List.length_take, List.length_reverse] at this
    omega
  rw [List.take_reverse] at z
  refine ⟨?_, l⟩
  rw [z]
  simp only [List.reverse_reverse, List.length_reverse]
  congr 1
  rw [List.length_drop]
  omega
theorem lst_take {s : Str} : ∀ {r : List Str} {k : Nat} {x : Str}, (s :: r)[k]? = some x → lst s (r.take k) = x := by
  intro r
  induction r generalizing s with
  | nil =>
    intro k x h
    cases k with
    | zero => exact Option.some.inj h
    | succ k => simp at h
  | cons y r ih =>
    intro k x h
    cases k with
    | zero => exact Option.some.inj h
    | succ k => exact ih (s := y) h
theorem stp_drop : ∀ {r : List Str} {s : Str} {k : Nat}, k ≤ r.length → stp (lst s (r.take k)) (r.drop k) = (stp s r).drop k
  | r, s, 0, _ => rfl
  | [], s, k + 1, h => by simp at h
  | y :: r, s, k + 1, h => stp_drop (r := r) (s := y) (k := k) (by simp at h; exact h)
/-- the far-th look: one tag goes on, or not -/
theorem far_iff {s x : Str} {r w ns : List Str} {k : Nat} (hw : SB s (stp s r) w) (hk : (s :: r)[k]? = some x) (hkw : k < w.length) (hkr : k ≤ r.length) (nd : ns.Nodup)
    (hm : ∀ t, t ∈ ns ↔ (x, t) ∈ (stp s r).drop k ∧ Conn t (((stp s r).drop k).erase (x, t))) : ns.length = 1 ↔ k + 1 < w.length := by
  have z := (hw.along r (List.Perm.refl _)).2 k hkw hkr
  rw [stp_drop hkr, lst_take hk] at z
  rw [← z]
  refine one_of nd fun t => ?_
  rw [hm]
  have hj : (stp x (r.drop k)).Perm ((stp s r).drop k) := by
    rw [← stp_drop hkr, lst_take hk]
  exact (opn_iff hj).symm
theorem turned_eq {s : Str} {r r' w v : List Str} (hw : SB (lst s r) ((stp s r).map sw) w) (h : (s :: r).reverse = lst s r :: r') (hv : SB (lst s r) (stp (lst s r) r') v) : v = w := by
  obtain ⟨r0, e1, e2⟩ := turn_perm (List.Perm.refl (stp s r))
  rw [h] at e1
  have : r' = r0 := (List.cons.inj e1).2
  subst this
  exact (hv.perm e2).uniq hw
end K76
set_option Elab.async false
set_option linter.all false
set_option maxRecDepth 100000
/-! Walk: _law_by_hand_right. -/
namespace K76
open PySem PySem.Spec PyProof.Rows L2
/-- Counts.of, asked of the class -/
structure Go (P : Program) (w : World) (K : PySem.W.Frag) (mg : Str → Option Value) (base : Heap) (C : Addr) (mc : Value) (p f : Addr) (fd : FuncData) : Prop where
  sm : SMet K C mc "of" p f
  ok : FnOk P w K mg base CX0 6 f fd ["journey"] (spOf K C)
  bd : Binds K fd ["journey"] []
  mgC : mg "Counts" = some (.ref C)
section
variable {X : Cx} {C f p : Addr} {fd : FuncData} {e : Expr} {es : List Expr} {t : TA} {pp pos apos : Pos} {mc : Value}
theorem pe_go {pl : Sem Bool} (G : Go X.prog X.w X.K X.mg X.base C mc p f fd) (hr : Room 6 X.A) (hg : Gl X "Counts") (ha : PA X (e :: es) t)
    (hst : starEach (e :: es) X.env = (false, eval e X.env) :: starEach es X.env := by rfl) (hpl : (backTo pos (starEach es X.env)).any (·.1) = false := by rfl)
    (ht : eval (.Call (.Attribute (.Name "Counts" pp) "of" apos) (e :: es) [] pos) X.env = (do
      let ov ← eval (.Name "Counts" pp) X.env
      standAt apos.atName
      let (f, first) ← holding [ov] (getMethod ov "of" pl)
      callWith pos f first (backTo pos (starEach (e :: es) X.env)) (backToKw pos (keywordEach [] X.env))) := by rfl) :
    PE X (.Call (.Attribute (.Name "Counts" pp) "of" apos) (e :: es) [] pos) (tSMeth C (spOf X.K C) [] E0 (tC (.ref C)) t) :=
  pe_smeth (pe_glob hg G.mgC (v := .ref C) rfl) G.sm G.ok hr G.bd .nil pass0 ha hst hpl ht
end
section
variable {K : PySem.W.Frag} {f : Addr} {fd : FuncData} {v : V}
theorem ini_binds (F : FunD K "__init__" "Counts.__init__" (defArgs sInit) (defBody sInit) (defScope sInit) [v] [] f fd) : Binds K fd ["self", "start", "steps"] [] := by
  obtain ⟨ds, h1, h2⟩ := F.binds1 (ps := ["self", "start", "steps"]) 3 1 (by simp) rfl fun T kV doc pm an cdv ct us its h1 h2 =>
    match us, its, h1, h2 with
    | [_, _, _], [_], _, _ => ⟨_, rfl, rfl⟩
  cases h1
  exact h2
theorem ini_binds1 (F : FunD K "__init__" "Counts.__init__" (defArgs sInit) (defBody sInit) (defScope sInit) [v] [] f fd) : ∃ ds, Vals [v] ds ∧ Binds K fd ["self", "start", "steps"] ds :=
  F.binds1 (ps := ["self", "start", "steps"]) 2 0 (by simp) rfl fun T kV doc pm an cdv ct us its h1 h2 =>
    match us, its, h1, h2 with
    | [_, _], [_], _, _ => ⟨_, rfl, rfl⟩
theorem kwB (F : Fun K "sure_beginning" "sure_beginning" sSureB f fd) : KBinds K fd ["counts"] ["counts"] (fun us ws => us ++ ws) (fun us ws => us ++ ws) := by
  obtain ⟨oc, od, kV, doc, pm, an, cdv, ct, osl, rfl, lk, hcd⟩ := F.ex
  refine ⟨fun s us ws _ hl => ?_, fun r1 r2 => r1.append r2⟩
  match us, ws, hl with
  | [], [x], _ => exact .of_eq rfl
  | [x], [], _ => exact .of_eq rfl
theorem kwE (F : Fun K "sure_end" "sure_end" sSureE f fd) : KBinds K fd ["counts"] ["counts"] (fun us ws => us ++ ws) (fun us ws => us ++ ws) := by
  obtain ⟨oc, od, kV, doc, pm, an, cdv, ct, osl, rfl, lk, hcd⟩ := F.ex
  refine ⟨fun s us ws _ hl => ?_, fun r1 r2 => r1.append r2⟩
  match us, ws, hl with
  | [], [x], _ => exact .of_eq rfl
  | [x], [], _ => exact .of_eq rfl
end
theorem cat_one {K : PySem.W.Frag} {H : Hp} {l0 l a : Addr} {vs : List V} {rows : List (List Str)} {x : List Str} {Q : VK} (h0 : H l0 = some (.lst vs)) (hd : DpAll K H vs (rows.map dRow)) (ht : SqT K H a (x.map V.str)) (nl : H l = none) (hlen : rows.length ≤ 20)
    (q : ∀ p H' vs', Same H H' → H' p = some (.lst vs') → DpAll K H' vs' ((rows ++ [x]).map dRow) → Q (.ref p) H') : rCat (.ref l0) (.ref l) (upd H l (.lst [.ref a])) Q := by
  have s1 := same_upd (o := .lst [.ref a]) nl
  refine ⟨l0, l, vs, [.ref a], rfl, rfl, s1 _ _ h0, upd_same, ?_, fun p np => ?_⟩
  · have := dpAll_len hd
    rw [List.length_map] at this
    rw [List.length_singleton, sizeLine_eq]
    omega
  · have s2 := same_upd (o := .lst (vs ++ [.ref a])) np
    refine q p _ _ (s1.trans s2) upd_same ?_
    rw [List.map_append]
    exact dpAll_app (dpAll_same (s1.trans s2) _ _ hd) (.cons (row_dp (Same.tup' (s1.trans s2) ht)) .nil)
theorem cat_all {K : PySem.W.Frag} {H : Hp} {l0 l : Addr} {vs ws : List V} {rows rows2 : List (List Str)} {Q : VK} (h0 : H l0 = some (.lst vs)) (hd : DpAll K H vs (rows.map dRow)) (h1 : H l = some (.lst ws)) (hd1 : DpAll K H ws (rows2.map dRow)) (hlen : rows.length + rows2.length ≤ 20)
    (q : ∀ p H' vs', Same H H' → H' p = some (.lst vs') → DpAll K H' vs' ((rows ++ rows2).map dRow) → Q (.ref p) H') : rCat (.ref l0) (.ref l) H Q := by
  refine ⟨l0, l, vs, ws, rfl, rfl, h0, h1, ?_, fun p np => ?_⟩
  · have := dpAll_len hd
    have := dpAll_len hd1
    simp only [List.length_map] at *
    rw [sizeLine_eq]
    omega
  · have s2 := same_upd (o := .lst (vs ++ ws)) np
    refine q p _ _ s2 upd_same ?_
    rw [List.map_append]
    exact dpAll_app (dpAll_same s2 _ _ hd) (dpAll_same s2 _ _ hd1)
theorem st4 : StepsIn t4 := fun t ht => (show ∀ t ∈ t4, t.1 ≠ t.2.1 ∧ (0 : Int) ≤ t.2.2 from by decide +kernel) t ht
theorem st6 : StepsIn t6 := fun t ht => (show ∀ t ∈ t6, t.1 ≠ t.2.1 ∧ (0 : Int) ≤ t.2.2 from by decide +kernel) t ht
theorem st7 : StepsIn t7 := fun t ht => (show ∀ t ∈ t7, t.1 ≠ t.2.1 ∧ (0 : Int) ≤ t.2.2 from by decide +kernel) t ht
section
variable {P : Program} {w : World} {K : PySem.W.Frag} {mg : Str → Option Value} {base : Heap} {C : Addr}
def spTrue (K : PySem.W.Frag) : Sp := fun vs H Q _ => vs = [] ∧ ∀ H', Same H H' → Q (.bl true) H'
theorem ok_hand {f fI pO fO fB fE fS dE : Addr} {fd fdI fdO fdB fdE fdS : FuncData} {mc : Value} (F : Fun K "_law_by_hand_right" "_law_by_hand_right" sLHand f fd) (B : Bn mg) (I : Gi P w K mg base C fI fdI) (O : Go P w K mg base C mc pO fO fdO)
    (GB : Gd P w K mg base 9 "sure_beginning" ["counts"] (spSureB K C) fB fdB) (GE : Gd P w K mg base 10 "sure_end" ["counts"] (spSureE K C) fE fdE) (GS : Gd P w K mg base 3 "_law_same" ["_law_got", "_law_due"] (spSame K 2) fS fdS)
    (bI1 : ∃ ds, Vals [V.ref dE] ds ∧ Binds K fdI ["self", "start", "steps"] ds) (eE : ∀ H, SqT K H dE [])
    (kB : KBinds K fdB ["counts"] ["counts"] (fun us ws => us ++ ws) (fun us ws => us ++ ws)) (kE : KBinds K fdE ["counts"] ["counts"] (fun us ws => us ++ ws) (fun us ws => us ++ ws)) :
    FnOk P w K mg base CX0 11 f fd [] (spTrue K) := by
  obtain ⟨ds, rds, bds⟩ := bI1
  refine F.ok scLHand (fun vs H Q E h => ?_) (fun cdv A outer sh H vs Q E hr h => ?_)
  · obtain ⟨rfl, _⟩ := h
    rfl
  · obtain ⟨rfl, q⟩ := h
    have hr3 : Room 3 _ := hr.mono (by decide)
    have hr5 : Room 5 _ := hr.mono (by decide)
    have hr6 : Room 6 _ := hr.mono (by decide)
    have hr9 : Room 9 _ := hr.mono (by decide)
    refine ⟨_, pss_cons (ps_set (i := 0) scLHand.nd rfl (.inl rfl) (pe_go O hr6 (by rfl) (pa_cons (pe_tup (pa_cons pe_str (pa_cons pe_str (pa_cons pe_str (pa_cons pe_str (pa_cons pe_str (pa_cons pe_str (pa_cons pe_str pa_nil)))))))) pa_nil)))
      (pss_cons (ps_set (i := 1) scLHand.nd rfl (.inl rfl) (pe_lst (pa_cons (pe_g GB hr9 (by rfl) (pa_cons (pv 0) pa_nil)) (pa_cons (pe_g GE hr (by rfl) (pa_cons (pv 0) pa_nil)) pa_nil))))
      (pss_cons (ps_set (i := 1) scLHand.nd rfl (.inl rfl) (pe_op op_cat (pv 1) (pe_lst (pa_cons (pe_g GB hr9 (by rfl) (pa_cons (pe_go O hr6 (by rfl) (pa_cons (pe_tup (pa_cons pe_str (pa_cons pe_str (pa_cons pe_str (pa_cons pe_str (pa_cons pe_str pa_nil)))))) pa_nil)) pa_nil)) pa_nil))))
      (pss_cons (ps_set (i := 1) scLHand.nd rfl (.inl rfl) (pe_op op_cat (pv 1) (pe_lst (pa_cons (pe_callK0 GE.ok hr (by rfl) GE.gm GE.kp kE pass0 (pk_cons (pe_make I.mkC I.ok hr5 (by rfl) I.tx.mgC bds rds pass0 (pa_cons pe_str pa_nil)) pk_nil)) pa_nil))))
      (pss_cons (ps_set (i := 2) scLHand.nd rfl (.inl rfl) (pe_lst (pa_cons (pe_tup (pa_cons pe_str (pa_cons pe_str pa_nil))) (pa_cons (pe_tup (pa_cons pe_str (pa_cons pe_str pa_nil))) (pa_cons (pe_tup (pa_cons pe_str pa_nil)) (pa_cons (pe_tup (pa_cons pe_str pa_nil)) pa_nil))))))
      (pss_cons (ps_set (i := 1) scLHand.nd rfl (.inl rfl) (pe_op op_cat (pv 1) (pe_lst (pa_cons (pe_callK0 GB.ok hr9 (by rfl) GB.gm GB.kp kB pass0 (pk_cons (pe_gi I hr5 (by rfl) (pa_cons pe_str (pa_cons (pe_tup (pa_cons (pe_tup (pa_cons pe_str (pa_cons pe_str (pa_cons pe_int pa_nil)))) (pa_cons (pe_tup (pa_cons pe_str (pa_cons pe_str (pa_cons pe_int pa_nil)))) pa_nil))) pa_nil))) pk_nil)) pa_nil))))
      (pss_cons (ps_set (i := 1) scLHand.nd rfl (.inl rfl) (pe_op op_cat (pv 1) (pe_lst (pa_cons (pe_g GE hr (by rfl) (pa_cons (pe_go O hr6 (by rfl) (pa_cons (pe_tup (pa_cons pe_str (pa_cons pe_str (pa_cons pe_str (pa_cons pe_str pa_nil))))) pa_nil)) pa_nil)) pa_nil))))
      (pss_cons (ps_set (i := 2) scLHand.nd rfl (.inl rfl) (pe_op op_cat (pv 2) (pe_lst (pa_cons (pe_op op_catA (pe_op op_repT (pe_tup (pa_cons pe_str (pa_cons pe_str pa_nil))) pe_int) (pe_tup (pa_cons pe_str pa_nil))) (pa_cons (pe_tup (pa_cons pe_str (pa_cons pe_str (pa_cons pe_str (pa_cons pe_str pa_nil))))) pa_nil)))))
      (pss_cons (ps_set (i := 3) scLHand.nd rfl (.inl rfl) (pe_gi I hr5 (by rfl) (pa_cons pe_str (pa_cons (pe_tup (pa_cons (pe_tup (pa_cons pe_str (pa_cons pe_str (pa_cons pe_int pa_nil)))) (pa_cons (pe_tup (pa_cons pe_str (pa_cons pe_str (pa_cons pe_int pa_nil)))) (pa_cons (pe_tup (pa_cons pe_str (pa_cons pe_str (pa_cons pe_int pa_nil)))) pa_nil)))) pa_nil))))
      (pss_cons (ps_set (i := 1) scLHand.nd rfl (.inl rfl) (pe_op op_cat (pv 1) (pe_lst (pa_cons (pe_g GB hr9 (by rfl) (pa_cons (pv 3) pa_nil)) pa_nil))))
      (pss_cons (ps_set (i := 4) scLHand.nd rfl (.inl rfl) (pe_tup (pa_cons (pe_tup (pa_cons pe_str (pa_cons pe_str (pa_cons pe_int pa_nil)))) (pa_cons (pe_tup (pa_cons pe_str (pa_cons pe_str (pa_cons pe_int pa_nil)))) (pa_cons (pe_tup (pa_cons pe_str (pa_cons pe_str (pa_cons pe_int pa_nil)))) (pa_cons (pe_tup (pa_cons pe_str (pa_cons pe_str (pa_cons pe_int pa_nil)))) pa_nil))))))
      (pss_cons (ps_set (i := 1) scLHand.nd rfl (.inl rfl) (pe_op op_cat (pv 1) (pe_lst (pa_cons (pe_g GE hr (by rfl) (pa_cons (pe_gi I hr5 (by rfl) (pa_cons pe_str (pa_cons (pv 4) pa_nil))) pa_nil)) pa_nil))))
      (pss_one (ps_ret (pe_g GS hr3 (by rfl) (pa_cons (pv 1) (pa_cons (pe_op op_cat (pv 2) (pe_lst (pa_cons (pe_tup (pa_cons pe_str (pa_cons pe_str (pa_cons pe_str (pa_cons pe_str pa_nil))))) (pa_cons (pe_tup (pa_cons pe_str pa_nil)) pa_nil)))) pa_nil)))))))))))))))), ?_⟩
    have one1 : ∀ {H : Hp}, 1 ≤ sizeLine := fun {_} => by decide
    have z1 : (1 : Nat) ≤ sizeLine := by decide
    have z2 : (2 : Nat) ≤ sizeLine := by decide
    have z3 : (3 : Nat) ≤ sizeLine := by decide
    have z4 : (4 : Nat) ≤ sizeLine := by decide
    have z5 : (5 : Nat) ≤ sizeLine := by decide
    have z7 : (7 : Nat) ≤ sizeLine := by decide
    -- more
    refine ⟨rfl, z7, fun T nT => ⟨_, cx, r1, rfl, row_dp (xs := cx :: r1) (SqT.of upd_same), eok1, fun p1 H1 s1 c1 => ?_⟩⟩
    have t1 := (same_upd (o := .tup [.str cx, .str ca, .str cb, .str ca, .str cc, .str ca, .str cy]) nT).trans s1
    refine ⟨_, rfl, p1, cx, _, rfl, c1, eok1, had_stp r1 cx, fun a1 w1 H2 s2 u1 e1 _ => ?_⟩
    refine ⟨_, rfl, p1, cx, _, r1, rfl, c1.same s2, eok1, .refl _, fun a2 w2 H3 s3 u2 e2 _ => ⟨z2, fun l1 n1 => ?_⟩⟩
    rw [e1.uniq sb1] at u1
    rw [e2.uniq sb1e] at u2
    have s4 := same_upd (o := .lst [.ref a1, .ref a2]) n1
    have d1 : DpAll K (upd H3 l1 (.lst [.ref a1, .ref a2])) [.ref a1, .ref a2] ([[cx, ca], [ca, cy]].map dRow) := .cons (row_dp (xs := [cx, ca]) (Same.tup' (s3.trans s4) u1)) (.cons (row_dp (xs := [ca, cy]) (Same.tup' s4 u2)) .nil)
    have t2 := ((t1.trans s2).trans s3).trans s4
    have g1 : (upd H3 l1 (.lst [.ref a1, .ref a2])) l1 = some (.lst [.ref a1, .ref a2]) := upd_same
    generalize upd H3 l1 (.lst [.ref a1, .ref a2]) = G1 at d1 t2 g1
    generalize [V.ref a1, V.ref a2] = vs1 at d1 g1
    -- sure_beginning(Counts.of((a, b, a, c, a)))
    refine ⟨_, rfl, ⟨rfl, z5, fun T3 nT3 => ⟨_, ca, r2, rfl, row_dp (xs := ca :: r2) (SqT.of upd_same), eok2, fun p3 H4 s5 c3 => ⟨p3, ca, _, rfl, c3, eok2, had_stp r2 ca, fun a3 w3 H5 s6 u3 e3 _ => ⟨z1, fun l2 n2 => ?_⟩⟩⟩⟩⟩
    have k1 := ((same_upd (o := .tup [.str ca, .str cb, .str ca, .str cc, .str ca]) nT3).trans s5).trans s6
    rw [e3.uniq sb2] at u3
    refine cat_one (k1 _ _ g1) (dpAll_same k1 _ _ d1) u3 n2 (by decide) fun l3 G2 vs2 s7 g2 d2 => ?_
    have t3 := (t2.trans k1).trans s7
    -- sure_end(counts=Counts('q'))
    refine ⟨_, rfl, made (v := .ref dE) (ts := []) (.inr (.tup (eE _) .nil)) (fun t z => by cases z) (by decide) (by decide) fun p4 H6 s8 c4 => ⟨p4, cq, [], [], rfl, c4, ⟨fun e z => (by cases z), by decide⟩, .refl _, fun a4 w4' H7 s9 u4 e4 _ => ⟨z1, fun l4 n4 => ?_⟩⟩⟩
    rw [e4.uniq sb3] at u4
    refine cat_one ((s8.trans s9) _ _ g2) (dpAll_same (s8.trans s9) _ _ d2) u4 n4 (by decide) fun l5 G3 vs3 s10 g3 d3 => ?_
    have t4' := ((t3.trans s8).trans s9).trans s10
    -- due
    refine ⟨z2, fun q1 nq1 => ⟨z2, fun q2 nq2 => ⟨z1, fun q3 nq3 => ⟨z1, fun q4 nq4 => ⟨z4, fun ld nld => ?_⟩⟩⟩⟩⟩
    have b1 := same_upd (o := .tup [.str cx, .str ca]) nq1
    have b2 := same_upd (o := .tup [.str ca, .str cy]) nq2
    have b3 := same_upd (o := .tup [.str ca]) nq3
    have b4 := same_upd (o := .tup [.str cq]) nq4
    have b5 := same_upd (o := .lst [.ref q1, .ref q2, .ref q3, .ref q4]) nld
    have b45 := b4.trans b5
    have b35 := b3.trans b45
    have b25 := b2.trans b35
    have b15 := b1.trans b25
    have dd : DpAll K _ _ ([[cx, ca], [ca, cy], [ca], [cq]].map dRow) := DpAll.cons (row_dp (K := K) (xs := [cx, ca]) (SqT.of (b25 _ _ upd_same))) (.cons (row_dp (xs := [ca, cy]) (SqT.of (b35 _ _ upd_same))) (.cons (row_dp (xs := [ca]) (SqT.of (b45 _ _ upd_same))) (.cons (row_dp (xs := [cq]) (SqT.of (b5 _ _ upd_same))) .nil)))
    have d4 := dpAll_same b15 _ _ d3
    have g4 := b15 _ _ g3
    have t5 := t4'.trans b15
    -- sure_beginning(counts=Counts('a', ..))
    refine ⟨_, rfl, z3, fun A1 m1 => ⟨z3, fun A2 m2 => ⟨z2, fun A3 m3 => made (v := .ref A3) (ts := t4) (.inr (.tup (SqT.of upd_same) (.cons (tri_dp (t := (ca, cb, 9)) (SqT.of (((same_upd m2).trans (same_upd m3)) _ _ upd_same))) (.cons (tri_dp (t := (cb, ca, 9)) (SqT.of ((same_upd m3) _ _ upd_same))) .nil)))) st4 (by decide) (by decide) fun p5 H8 s11 c5 =>
      ⟨p5, ca, exp t4, rfl, c5, eok4, had4, fun a5 w5 H9 s12 u5 e5 _ => ⟨z1, fun l6 n6 => ?_⟩⟩⟩⟩⟩
    have k5 := ((((same_upd m1).trans (same_upd m2)).trans (same_upd m3)).trans s11).trans s12
    rw [e5.uniq sb4] at u5
    refine cat_one (k5 _ _ g4) (dpAll_same k5 _ _ d4) u5 n6 (by decide) fun l7 G5 vs5 s13 g5 d5 => ?_
    have k5' := k5.trans s13
    have gd5 := k5' _ _ upd_same
    have dd5 := dpAll_same k5' _ _ dd
    have t6' := t5.trans k5'
    -- sure_end(Counts.of((a, b, c, b)))
    refine ⟨_, rfl, ⟨rfl, z4, fun T6 nT6 => ⟨_, ca, r5, rfl, row_dp (xs := ca :: r5) (SqT.of upd_same), eok5, fun p6 H10 s14 c6 => ⟨p6, ca, _, r5, rfl, c6, eok5, .refl _, fun a6 w6 H11 s15 u6 e6 _ => ⟨z1, fun l8 n8 => ?_⟩⟩⟩⟩⟩
    have k6 := ((same_upd nT6).trans s14).trans s15
    rw [e6.uniq sb5] at u6
    refine cat_one (k6 _ _ g5) (dpAll_same k6 _ _ d5) (x := [ca, cb, cc, cb]) u6 n8 (by decide) fun l9 G6 vs6 s16 g6 d6 => ?_
    have k6' := k6.trans s16
    have gd6 := k6' _ _ gd5
    have dd6 := dpAll_same k6' _ _ dd5
    have t7' := t6'.trans k6'
    -- due + [..]
    refine ⟨_, rfl, ⟨z2, fun B1 nB1 => ⟨B1, 9, [.str ca, .str cb], rfl, rfl, SqT.of upd_same, by simp, by decide, by decide, by decide, fun B2 nB2 => ⟨z1, fun B3 nB3 => ⟨B2, B3, _, [.str ca], rfl, rfl, SqT.of ((same_upd nB3) _ _ upd_same), SqT.of upd_same, (by decide), fun z => absurd z (by decide), fun _ z => absurd z (by simp),
      fun _ _ B4 nB4 => ⟨z4, fun B5 nB5 => ⟨z2, fun l10 n10 => ?_⟩⟩⟩⟩⟩⟩⟩
    have k7 := (((((same_upd nB1).trans (same_upd nB2)).trans (same_upd nB3)).trans (same_upd nB4)).trans (same_upd nB5)).trans (same_upd (o := .lst [.ref B4, .ref B5]) n10)
    refine cat_all (rows2 := [w4, [ca, cb, cc, cb]]) (k7 _ _ gd6) (dpAll_same k7 _ _ dd6) upd_same (.cons (row_dp (xs := w4) (SqT.of (((same_upd nB5).trans (same_upd n10)) _ _ upd_same))) (.cons (row_dp (xs := [ca, cb, cc, cb]) (SqT.of ((same_upd n10) _ _ upd_same))) .nil)) (by decide) fun ld2 G7 vd7 s17 gd7 dd7 => ?_
    have k7' := k7.trans s17
    have g7 := k7' _ _ g6
    have d7 := dpAll_same k7' _ _ d6
    have t8 := t7'.trans k7'
    -- fork
    refine ⟨z3, fun F1 m1 => ⟨z3, fun F2 m2 => ⟨z3, fun F3 m3 => ⟨z3, fun F4 m4 => made (v := .ref F4) (ts := t6) (.inr (.tup (SqT.of upd_same) (.cons (tri_dp (t := (ca, cb, 1)) (SqT.of ((((same_upd m2).trans (same_upd m3)).trans (same_upd m4)) _ _ upd_same))) (.cons (tri_dp (t := (cb, ca, 1)) (SqT.of (((same_upd m3).trans (same_upd m4)) _ _ upd_same))) (.cons (tri_dp (t := (ca, cd, 1)) (SqT.of ((same_upd m4) _ _ upd_same))) .nil))))) st6 (by decide) (by decide)
      fun p7 H12 s18 c7 => ?_⟩⟩⟩⟩
    have k8 := ((((same_upd m1).trans (same_upd m2)).trans (same_upd m3)).trans (same_upd m4)).trans s18
    have g8 := k8 _ _ g7
    have d8 := dpAll_same k8 _ _ d7
    have gd8 := k8 _ _ gd7
    have dd8 := dpAll_same k8 _ _ dd7
    have t9 := t8.trans k8
    refine ⟨_, rfl, _, rfl, p7, ca, exp t6, rfl, c7, eok6, had6, fun a7 w7 H13 s19 u7 e7 _ => ⟨z1, fun l11 n11 => ?_⟩⟩
    rw [e7.uniq sb6] at u7
    refine cat_one (s19 _ _ g8) (dpAll_same s19 _ _ d8) u7 n11 (by decide) fun l12 G9 vs9 s20 g9 d9 => ?_
    have k9 := s19.trans s20
    have gd9 := k9 _ _ gd8
    have dd9 := dpAll_same k9 _ _ dd8
    have t10 := t9.trans k9
    -- ring
    refine ⟨z3, fun F1 m1 => ⟨z3, fun F2 m2 => ⟨z3, fun F3 m3 => ⟨z3, fun F4 m4 => ⟨z4, fun F5 m5 => ?_⟩⟩⟩⟩⟩
    have k10 := ((((same_upd m1).trans (same_upd m2)).trans (same_upd m3)).trans (same_upd m4)).trans (same_upd (o := .tup [.ref F1, .ref F2, .ref F3, .ref F4]) m5)
    have dR := Dp.tup (K := K) (SqT.of (upd_same (a := F5) (o := .tup [.ref F1, .ref F2, .ref F3, .ref F4]))) (.cons (tri_dp (K := K) (t := (ca, cb, 2)) (SqT.of (((((same_upd m2).trans (same_upd m3)).trans (same_upd m4)).trans (same_upd (o := .tup [.ref F1, .ref F2, .ref F3, .ref F4]) m5)) _ _ upd_same))) (.cons (tri_dp (t := (ca, cc, 1)) (SqT.of ((((same_upd m3).trans (same_upd m4)).trans (same_upd m5)) _ _ upd_same))) (.cons (tri_dp (t := (cb, ca, 2)) (SqT.of (((same_upd m4).trans (same_upd m5)) _ _ upd_same))) (.cons (tri_dp (t := (cc, ca, 1)) (SqT.of ((same_upd m5) _ _ upd_same))) .nil))))
    refine ⟨_, rfl, _, rfl, made (v := .ref F5) (ts := t7) (.inr dR) st7 (by decide) (by decide) fun p8 H14 s21 c8 => ⟨p8, ca, exp t7, r7, rfl, c8, eok7, perm7, fun a8 w8 H15 s22 u8 e8 _ => ⟨z1, fun l13 n13 => ?_⟩⟩⟩
    have k11 := (k10.trans s21).trans s22
    rw [e8.uniq sb7] at u8
    refine cat_one (k11 _ _ g9) (dpAll_same k11 _ _ d9) u8 n13 (by decide) fun l14 G10 vs10 s23 g10 d10 => ?_
    have k11' := k11.trans s23
    have gd10 := k11' _ _ gd9
    have dd10 := dpAll_same k11' _ _ dd9
    have t11 := t10.trans k11'
    -- the last look
    refine ⟨_, rfl, _, rfl, z4, fun E1 m1 => ⟨z1, fun E2 m2 => ⟨z2, fun l15 n15 => ?_⟩⟩⟩
    have k12 := ((same_upd m1).trans (same_upd m2)).trans (same_upd (o := .lst [.ref E1, .ref E2]) n15)
    refine cat_all (rows2 := [[ca, cb, ca, cd], [ca]]) (k12 _ _ gd10) (dpAll_same k12 _ _ dd10) upd_same (.cons (row_dp (xs := [ca, cb, ca, cd]) (SqT.of (((same_upd m2).trans (same_upd n15)) _ _ upd_same))) (.cons (row_dp (xs := [ca]) (SqT.of ((same_upd n15) _ _ upd_same))) .nil)) (by decide) fun ld3 G11 vd11 s24 gd11 dd11 => ?_
    have k12' := k12.trans s24
    exact ⟨.ref l14, .ref ld3, _, rfl, .lst (SqL.of (k12' _ _ g10)) (dpAll_same k12' _ _ d10), .lst (SqL.of gd11) dd11, sm_rows _ (by decide) (by decide), fun H16 s25 => q H16 ((t11.trans k12').trans s25)⟩
end
end K76
set_option Elab.async false
set_option linter.all false
set_option maxRecDepth 100000
/-! Walk: _law_right. -/
namespace K76
open PySem PySem.Spec PyProof.Rows L2
section
variable {P : Program} {w : World} {K : PySem.W.Frag} {mg : Str → Option Value} {base : Heap} {C : Addr}
def NR : List Str := ["_law_box_here", "_law_row_so", "_law_all_so", "_law_due", "_law_long", "_law_heard", "_law_back_so", "_law_far", "_law_left_so", "_law_tags_here", "_law_many_so", "_law_own", "_law_tag"]
def spRight (K : PySem.W.Frag) : Sp := fun vs H Q _ => ∃ (b : Addr) (n : Int), vs = [.ref b] ∧ BoxAt H b n ∧ n < 980000 ∧ ∀ H', BoxAt H' b (n + 220) → But b H H' → Q (.bl true) H'
theorem on_step {x z : Str} {r : List Str} {y : Str} (hy : y ∈ x :: z :: r) : ∃ e ∈ stp x (z :: r), y = e.1 ∨ y = e.2 := by
  induction r generalizing x z with
  | nil =>
    refine ⟨(x, z), List.mem_cons_self, ?_⟩
    simpa using hy
  | cons t r ih =>
    rcases List.mem_cons.mp hy with e | e
    · exact ⟨(x, z), List.mem_cons_self, .inl e⟩
    · obtain ⟨u, hu, h⟩ := ih e
      exact ⟨u, List.mem_cons_of_mem _ hu, h⟩
theorem hd_len {x : Str} {r hd : List Str} {qr : List (List Str)} (hm : ∀ q, q ∈ hd :: qr ↔ ∃ r', q = x :: r' ∧ (stp x r').Perm (stp x r)) : hd.length = r.length + 1 := by
  obtain ⟨r', e, hp⟩ := (hm hd).1 List.mem_cons_self
  rw [e, jl hp, stp_length]
theorem ok_right {f pO fO fB fE fS fT fTg fW fA fTy fSh fG : Addr} {fd fdO fdB fdE fdS fdT fdTg fdW fdA fdTy fdSh fdG : FuncData} {mc : Value} (F : Fun K "_law_right" "_law_right" sLRight f fd) (B : Bn mg) (O : Go P w K mg base C mc pO fO fdO)
    (GB : Gd P w K mg base 9 "sure_beginning" ["counts"] (spSureB K C) fB fdB) (GE : Gd P w K mg base 10 "sure_end" ["counts"] (spSureE K C) fE fdE) (GS : Gd P w K mg base 3 "_law_same" ["_law_got", "_law_due"] (spSame K 2) fS fdS)
    (GS1 : Gd P w K mg base 2 "_law_same" ["_law_got", "_law_due"] (spSame K 1) fS fdS) (GT : Gd P w K mg base 1 "_law_take" ["_law_box_here", "_law_below"] (spTake K) fT fdT) (GTg : Gd P w K mg base 3 "_law_tags" ["_law_box_here", "_law_many_so"] (spTags K) fTg fdTg)
    (GW : Gd P w K mg base 3 "_law_walk" ["_law_box_here", "_law_tags_here", "_law_most_so"] (spWalk K) fW fdW) (GA : Gd P w K mg base 2 "_law_all" ["_law_first_so", "_law_rows_so"] (spAll K) fA fdA) (GTy : Gd P w K mg base 1 "_law_tally" ["_law_row_so"] (spTally K) fTy fdTy)
    (GSh : Gd P w K mg base 1 "_law_shared" ["_law_all_so"] (spShared K) fSh fdSh) (GG : Gd P w K mg base 1 "_law_goes_on" ["_law_row_so", "_law_far", "_law_tag"] (spGoes K) fG fdG) :
    FnOk P w K mg base CX0 11 f fd ["_law_box_here"] (spRight K) := by
  refine F.ok scLRight (fun vs H Q E h => ?_) (fun cdv A outer sh H vs Q E hr h => ?_)
  · obtain ⟨b, n, rfl, _⟩ := h
    rfl
  · obtain ⟨b, n, rfl, hb, hn, q⟩ := h
    have hr1 : Room 1 _ := hr.mono (by decide)
    have hr2 : Room 2 _ := hr.mono (by decide)
    have hr3 : Room 3 _ := hr.mono (by decide)
    have hr6 : Room 6 _ := hr.mono (by decide)
    have hr9 : Room 9 _ := hr.mono (by decide)
    refine ⟨_, pss_cons (ps_set (i := 1) scLRight.nd rfl (.inl rfl) (pe_g GW hr3 (by rfl) (pa_cons (pv 0) (pa_cons (pe_g GTg hr3 (by rfl) (pa_cons (pv 0) (pa_cons (pe_op op_add pe_int (pe_g GT hr1 (by rfl) (pa_cons (pv 0) (pa_cons pe_int pa_nil)))) pa_nil))) (pa_cons pe_int pa_nil)))))
      (pss_cons (ps_set (i := 2) scLRight.nd rfl (.inl rfl) (pe_g GA hr2 (by rfl) (pa_cons (pe_ix ix_tup (pv 1) pe_int (fun _ _ => rfl)) (pa_cons (pe_g GTy hr1 (by rfl) (pa_cons (pv 1) pa_nil)) pa_nil))))
      (C8.pss_cut (ps_if (pt_cmpR op_le (pe_callB call_len_seq (by rfl) B.len PySem.boot_len (pa_cons (pv 2) pa_nil)) pe_int (nomark _))
          (pss_cons (ps_set (i := 3) scLRight.nd rfl (.inl rfl) (pe_lst (pa_cons (pe_g GSh hr1 (by rfl) (pa_cons (pv 2) pa_nil)) (pa_cons (pe_revT (pe_g GSh hr1 (by rfl) (pa_cons
            (pe_lc (own := [("_law_own", 11)]) (g := gName 11) (tt := tYes) (te := tRevT K (tVar 11)) (by rfl) scLRight.nd (pi_list (pv 2)) (blkOk_by (own := [("_law_own", 11)]) (N := NR) (sc := defScope sLRight) (by decide +kernel))
              (fun _ _ _ _ _ => pg_name (i := 11) scLRight.nd rfl (.inl rfl)) (fun _ _ _ _ _ => pts_nil) (fun _ _ _ _ _ => pe_revT (pv 11))) pa_nil))) pa_nil))))
          (pss_one (ps_if (pt_not (pt_val (pe_g GS hr3 (by rfl) (pa_cons (pe_lst (pa_cons (pe_g GB hr9 (by rfl) (pa_cons (pe_go O hr6 (by rfl) (pa_cons (pv 1) pa_nil)) pa_nil)) (pa_cons (pe_g GE hr (by rfl) (pa_cons (pe_go O hr6 (by rfl) (pa_cons (pv 1) pa_nil)) pa_nil)) pa_nil))) (pa_cons (pv 3) pa_nil))))) (pss_one (ps_ret pe_bl)) pss_nil))) pss_nil)
      (pss_cons (ps_set (i := 4) scLRight.nd rfl (.inr rfl) (pe_g GW hr3 (by rfl) (pa_cons (pv 0) (pa_cons (pe_g GTg hr3 (by rfl) (pa_cons (pv 0) (pa_cons (pe_op op_add pe_int (pe_g GT hr1 (by rfl) (pa_cons (pv 0) (pa_cons pe_int pa_nil)))) pa_nil))) (pa_cons pe_int pa_nil)))))
      (pss_cons (ps_par (i := 5) (j := 6) (by rfl) scLRight.nd rfl rfl (by decide) rfl rfl (pa_cons (pe_g GB hr9 (by rfl) (pa_cons (pe_go O hr6 (by rfl) (pa_cons (pv 4) pa_nil)) pa_nil)) (pa_cons (pe_g GE hr (by rfl) (pa_cons (pe_go O hr6 (by rfl) (pa_cons (pv 4) pa_nil)) pa_nil)) pa_nil)) (by rfl))
      (pss_cons (ps_set (i := 3) scLRight.nd rfl (.inl rfl) (pe_lst (pa_cons (pe_slice sl_tupA (pv 4) po_none (po_some (pe_callB call_len_seq (by rfl) B.len PySem.boot_len (pa_cons (pv 5) pa_nil)))) (pa_cons (pe_slice sl_tupA (pv 4) (po_some (pe_op op_sub (pe_callB call_len_seq (by rfl) B.len PySem.boot_len (pa_cons (pv 4) pa_nil)) (pe_callB call_len_seq (by rfl) B.len PySem.boot_len (pa_cons (pv 6) pa_nil)))) po_none) pa_nil))))
      (pss_cons (ps_if (PW.pt (pw_or (pt_not (pt_val (pe_g GS hr3 (by rfl) (pa_cons (pe_lst (pa_cons (pv 5) (pa_cons (pv 6) pa_nil))) (pa_cons (pv 3) pa_nil))))) (pw_or1 (pt_cmpR op_lt (pe_callB call_len_seq (by rfl) B.len PySem.boot_len (pa_cons (pv 5) pa_nil)) pe_int (nomark _))))) (pss_one (ps_ret pe_bl)) pss_nil)
      (pss_cons (ps_for PassesOwn.never rfl (pi_range2 (by rfl) B.range (pa_cons pe_int (pa_cons (pe_op op_add (pe_callB call_len_seq (by rfl) B.len PySem.boot_len (pa_cons (pv 5) pa_nil)) (pe_callTy call_int1 (by rfl) B.int (by decide +kernel) (pa_cons (pe_cmpR op_lt (pe_callB call_len_seq (by rfl) B.len PySem.boot_len (pa_cons (pv 5) pa_nil)) (pe_callB call_len_seq (by rfl) B.len PySem.boot_len (pa_cons (pv 4) pa_nil)) (nomark _)) pa_nil))) pa_nil))) (pg_name (i := 7) scLRight.nd rfl (.inr rfl))
        (pss_cons (ps_set (i := 8) scLRight.nd rfl (.inl rfl) (pe_slice sl_list (pe_listZip rfl (by rfl) B.list (by rfl) B.zip (pa_cons (pv 4) (pa_cons (pe_slice sl_tupA (pv 4) (po_some pe_int) po_none) pa_nil))) (po_some (pe_op op_sub (pv 7) pe_int)) po_none))
        (pss_cons (ps_set (i := 9) scLRight.nd rfl (.inl rfl) (pe_callB (cr_sortedSetS rfl) (by rfl) B.sorted (by decide +kernel) (pa_cons (pe_callTy (cr_setS rfl) (by rfl) B.set (by decide +kernel) (pa_cons
            (pe_lc (own := [("_law_own", 11)]) (g := gName 11) (tt := tTest (tOp rEq (tOp (rIxT K) (tVar 11) (tC (.int 0))) (tOp (rIxT K) (tVar 4) (tOp (rI0 fun i j => V.int (i - j)) (tVar 7) (tC (.int 1)))))) (te := tOp (rIxT K) (tVar 11) (tC (.int 1))) (by rfl) scLRight.nd (pi_list (pv 8)) (blkOk_by (own := [("_law_own", 11)]) (N := NR) (sc := defScope sLRight) (by decide +kernel))
              (fun _ _ _ _ _ => pg_name (i := 11) scLRight.nd rfl (.inl rfl)) (fun _ _ _ _ _ => pts_one (pt_cmpR op_eq (pe_ix ix_tup (pv 11) pe_int (fun _ _ => rfl)) (pe_ix ix_tup (pv 4) (pe_op op_sub (pv 7) pe_int) (fun _ _ => rfl)) (nomark _))) (fun _ _ _ _ _ => pe_ix ix_tup (pv 11) pe_int (fun _ _ => rfl))) pa_nil)) pa_nil)))
        (pss_cons (ps_set (i := 10) scLRight.nd rfl (.inl rfl) (pe_callB call_len_seq (by rfl) B.len PySem.boot_len (pa_cons
            (pe_lc (own := [("_law_tag", 12)]) (g := gName 12) (tt := tB (tCall (spGoes K) [] E0 (tCons (tVar 4) (tCons (tVar 7) (tCons (tVar 12) tNil))))) (te := tVar 12) (by rfl) scLRight.nd (pi_list (pv 9)) (blkOk_by (own := [("_law_tag", 12)]) (N := NR) (sc := defScope sLRight) (by decide +kernel))
              (fun _ _ _ _ _ => pg_name (i := 12) scLRight.nd rfl (.inl rfl)) (fun _ _ _ _ _ => pts_one (pt_val (pe_g GG hr1 (by rfl) (pa_cons (pv 4) (pa_cons (pv 7) (pa_cons (pv 12) pa_nil)))))) (fun _ _ _ _ _ => pv 12)) pa_nil)))
        (pss_one (ps_if (pt_cmpR op_ne (pe_cmpR op_eq (pv 10) pe_int (nomark _)) (pe_cmpR op_lt (pv 7) (pe_callB call_len_seq (by rfl) B.len PySem.boot_len (pa_cons (pv 5) pa_nil)) (nomark _)) (nomark _)) (pss_one (ps_ret pe_bl)) pss_nil))))))
      (pss_one (ps_ret (pe_g GS1 hr2 (by rfl) (pa_cons (pv 6) (pa_cons (pe_revT (pe_g GB hr9 (by rfl) (pa_cons (pe_go O hr6 (by rfl) (pa_cons (pe_revT (pv 4)) pa_nil)) pa_nil))) pa_nil)))))))))))), ?_⟩
    have z2 : (2 : Nat) ≤ sizeLine := by decide
    -- the short journey
    refine ⟨_, rfl, _, rfl, _, rfl, b, n, 4, rfl, hb, by omega, by decide, by decide, fun i H1 hb1 hB1 hi0 hi1 => ⟨_, _, rfl, rfl, b, n + 1, 2 + i, rfl, hb1, by omega, by omega, by omega, fun l ts H2 hb2 hB2 nl hl nd sk hlen => ⟨b, l, n + 1 + 9, 8, ts, rfl, hb2, by omega, hl, nd, by omega, by omega, by decide, fun v x r H3 hb3 hB3 hT hun hrl hin => ?_⟩⟩⟩
    have hb3' : BoxAt H3 b (n + 110) := hb3.le (by omega)
    have hB03 := (hB1.trans hB2).trans hB3
    have at0 : atI ((x :: r).map V.str) 0 = some (.str x) := atI_nat (j := 0) rfl
    have hskx : ∀ y ∈ x :: r, Sk y := fun y hy => sk y (hin y hy)
    have hskP : SkP (stp x r) := fun e he => ⟨hskx _ (mem_stp he).1, hskx _ (mem_stp he).2⟩
    have eok : EOk (stp x r) := ⟨hun, by rw [stp_length]; omega⟩
    refine ⟨_, rfl, v, _, _, _, rfl, rfl, hT, at0, _, rfl, v, x, r, rfl, hT, by omega, hskP, fun tv ts' H4 s4 dT tT => ⟨x, tv, ts', _, rfl, dT, tT, hskP, hskx x List.mem_cons_self, by rw [stp_length]; exact hrl, fun la va qs H5 s5 hla dqs hlq hmem => ?_⟩⟩
    obtain ⟨hd, qr, rfl⟩ : ∃ hd qr, qs = hd :: qr := by
      cases qs with
      | nil => exact absurd ((hmem _).2 ⟨r, rfl, .refl _⟩) (by simp)
      | cons hd qr => exact ⟨hd, qr, rfl⟩
    have s35 := s4.trans s5
    refine ⟨fun σ' H' => ∃ x2 x3, σ' = [some (.ref b), some (.ref v), x2, x3, none, none, none, none, none, none, none, none, none] ∧ Same H3 H', ?_, ?_⟩
    · refine ⟨_, rfl, la, _, rfl, .inl (SqL.of hla), _, _, rfl, rfl, _, rfl, ?_⟩
      by_cases hc : (va.length : Int) ≤ 200
      case neg =>
        rw [decide_eq_false hc]
        exact iteF ⟨_, _, rfl, s35⟩
      rw [decide_eq_true hc]
      have hskq : ∀ q ∈ hd :: qr, ∀ y ∈ q, Sk y := fun q hq y hy => by
        obtain ⟨r', rfl, hp⟩ := (hmem q).1 hq
        cases r' with
        | nil => rw [List.mem_singleton.mp hy]; exact hskx x List.mem_cons_self
        | cons z r' =>
          obtain ⟨e, he, h'⟩ := on_step hy
          have := hskP e (hp.mem_iff.mp he)
          rcases h' with h' | h'
          · rw [h']; exact this.1
          · rw [h']; exact this.2
      refine iteT ⟨_, rfl, la, va, hd, qr, rfl, SqL.of hla, dqs, hlq, hskq, fun p1 k1 H6 s6 u1 L1 => ?_⟩
      refine ⟨_, rfl, la, rfl, ⟨_, SqL.of (s6 _ _ hla)⟩, fun D nD => ?_⟩
      refine lc_list (K := K) (a := la) (xs := va) (fun i H' => Same H6 H' ∧ ∃ acc, H' D = some (.lst acc) ∧ acc.length = i ∧ DpAll K H' acc ((((hd :: qr).take i).map List.reverse).map dRow)) ⟨same_upd nD, [], upd_same, rfl, .nil⟩ (fun i H' _ h => SqL.of ((s6.trans h.1) _ _ hla)) ?_ ?_
      · rintro i y H' hy ⟨sH, acc, hD, hal, hdp⟩
        obtain ⟨m, b', hmi, hm, rfl, hb'⟩ := row_at dqs hy
        have hil := (List.getElem?_eq_some_iff.mp hy).1
        refine ⟨rfl, _, rfl, b', _, rfl, Same.tup' (s6.trans sH) hb', fun pp np => ⟨acc, same_upd np _ _ hD, by rw [sizeLine_eq]; omega, fun c o hc => ?_, acc ++ [.ref pp], upd_same, by rw [List.length_append, hal]; rfl, ?_⟩⟩
        · rw [upd_ne (ne_of_none hc nD)]
          exact same_upd np _ _ (sH _ _ hc)
        · have fx : Fix _ (upd _ D (.lst (acc ++ [.ref pp]))) := fix_upd (same_upd np (o := .tup (m.map V.str).reverse) _ _ hD)
          rw [take_snoc hmi, List.map_append, List.map_append]
          exact dpAll_app (dpAll_fix fx _ _ (noLs_rows _) (dpAll_same (same_upd np) _ _ hdp)) (.cons (dp_fix fx _ _ (noL_row _) (row_dp (xs := m.reverse) (SqT.of (by rw [upd_same, List.map_reverse])))) .nil)
      · rintro H7 ⟨s7, acc, hD, hal, hdp⟩
        rw [take_all (by have := dpAll_len dqs; rw [List.length_map] at this; omega)] at hdp
        refine ⟨D, acc, hd.reverse, qr.map List.reverse, rfl, SqL.of hD, hdp, by omega, fun q hq y hy => ?_, fun p2 k2 H8 s8 u2 L2 => ⟨p2, _, rfl, u2, fun p3 n3 => ⟨z2, fun ld nld => ?_⟩⟩⟩
        · obtain ⟨q', hq', rfl⟩ := List.mem_map.mp (show q ∈ (hd :: qr).map List.reverse from hq)
          exact hskq q' hq' y (List.mem_reverse.mp hy)
        have k9 := (((s6.trans s7).trans s8).trans (same_upd (o := .tup ((hd.reverse.take k2).map V.str).reverse) n3)).trans (same_upd (o := .lst [.ref p1, .ref p3]) nld)
        have u1' := Same.tup' (((s7.trans s8).trans (same_upd (o := .tup ((hd.reverse.take k2).map V.str).reverse) n3)).trans (same_upd (o := .lst [.ref p1, .ref p3]) nld)) u1
        have u3' := SqT.of (K := K) (same_upd (o := .lst [.ref p1, .ref p3]) nld _ _ (upd_same (H := H8) (a := p3) (o := .tup ((hd.reverse.take k2).map V.str).reverse)))
        have gl : (upd (upd H8 p3 (.tup ((hd.reverse.take k2).map V.str).reverse)) ld (.lst [.ref p1, .ref p3])) ld = some (.lst [.ref p1, .ref p3]) := upd_same
        generalize upd (upd H8 p3 (.tup ((hd.reverse.take k2).map V.str).reverse)) ld (.lst [.ref p1, .ref p3]) = H9 at k9 u1' u3' gl
        have k39 := s35.trans k9
        have hT9 := Same.tup' k39 hT
        refine ⟨rfl, _, rfl, .ref v, x, r, rfl, row_dp hT9, eok, fun c1 H10 s10 C1 => ⟨c1, x, _, rfl, C1, eok, had_stp r x, fun a1 w1 H11 s11 t1 e1 _ => ?_⟩⟩
        refine ⟨rfl, _, rfl, .ref v, x, r, rfl, row_dp (Same.tup' (s10.trans s11) hT9), eok, fun c2 H12 s12 C2 => ⟨c2, x, _, r, rfl, C2, eok, .refl _, fun a2 w2 H13 s13 t2 e2 _ => ⟨z2, fun lg nlg => ?_⟩⟩⟩
        have f1 : hd.take k1 = w1 := short_eq e1 hmem L1
        have f2 : hd.reverse.take k2 = w2 := short_eq (h := hd.reverse) (qr := qr.map List.reverse) e2 (rev_mem (.refl _) hmem) L2
        rw [f1] at u1'
        rw [f2, ← List.map_reverse] at u3'
        have sl := same_upd (o := .lst [.ref a1, .ref a2]) nlg
        have k13 := (((s10.trans s11).trans s12).trans s13).trans sl
        have l1 : w1.length < 1000 := by rw [← f1, List.length_take]; have := (L1.le _ List.mem_cons_self).1; have := hd_len hmem; omega
        have l2 : w2.length < 1000 := by rw [← f2, List.length_take, List.length_reverse]; have := hd_len hmem; omega
        refine ⟨_, rfl, .ref lg, .ref ld, .list ([w1, w2.reverse].map dRow), rfl, .lst (SqL.of upd_same) (.cons (row_dp (Same.tup' ((s12.trans s13).trans sl) t1)) (.cons (row_dp (Same.tup' sl t2)) .nil)), .lst (SqL.of (k13 _ _ gl)) (.cons (row_dp (Same.tup' k13 u1')) (.cons (row_dp (Same.tup' k13 u3')) .nil)), sm_rows _ (by show 2 < 1000; decide) ?_, fun H14 s14 => ⟨true, rfl, ?_⟩⟩
        · intro q hq
          rcases List.mem_cons.mp hq with z | z
          · rw [z]; exact l1
          · rw [List.mem_singleton.mp z, List.length_reverse]; exact l2
        · exact iteF ⟨_, _, rfl, (k39.trans k13).trans s14⟩
    · rintro σ' H5 ⟨x2, x3, rfl, sM⟩
      have hbM := hb3'.same sM
      refine ⟨_, rfl, _, rfl, _, rfl, b, n + 110, 6, rfl, hbM, by omega, by decide, by decide, fun i2 G1 cb1 cB1 hj0 hj1 => ⟨_, _, rfl, rfl, b, n + 110 + 1, 2 + i2, rfl, cb1, by omega, by omega, by omega, fun l2 ts2 G2 cb2 cB2 nl2 hl2 nd2 sk2 hlen2 => ⟨b, l2, n + 110 + 1 + 9, 30, ts2, rfl, cb2, by omega, hl2, nd2, by omega, by omega, by decide, fun vL y s G3 cb3 cB3 hTL hunL hsl hinL => ?_⟩⟩⟩
      have cb : BoxAt G3 b (n + 220) := cb3.le (by omega)
      have hBG := (((hB03.trans (Same.but sM)).trans cB1).trans cB2).trans cB3
      have hskL : ∀ z ∈ y :: s, Sk z := fun z hz => sk2 z (hinL z hz)
      have hskPL : SkP (stp y s) := fun e he => ⟨hskL _ (mem_stp he).1, hskL _ (mem_stp he).2⟩
      have eokL : EOk (stp y s) := ⟨hunL, by rw [stp_length]; exact hsl⟩
      -- heard, back
      refine ⟨rfl, _, rfl, .ref vL, y, s, rfl, row_dp hTL, eokL, fun c1 G4 s4 C1 => ⟨c1, y, _, rfl, C1, eokL, had_stp s y, fun a1 w1 G5 s5 u1 e1 _ => ⟨rfl, _, rfl, .ref vL, y, s, rfl, row_dp (Same.tup' (s4.trans s5) hTL), eokL, fun c2 G6 s6 C2 => ⟨c2, y, _, s, rfl, C2, eokL, .refl _, fun a2 w2 G7 s7 u2 e2 _ => ⟨_, _, rfl, ?_⟩⟩⟩⟩⟩
      have k7 := ((s4.trans s5).trans s6).trans s7
      have v1 := Same.tup' (s6.trans s7) u1
      have TL7 := Same.tup' k7 hTL
      obtain ⟨f2, f2l⟩ := back_eq e2
      have f1 := long_eq e1
      have f1l : w1.length ≤ s.length + 1 := by
        have := congrArg List.length f1
        rw [List.length_take, List.length_cons] at this
        omega
      have f1p := e1.pos
      rw [List.length_cons] at f2l
      -- due
      refine ⟨_, rfl, _, rfl, a1, _, rfl, .inr v1, _, rfl, sl_to (k := (List.map V.str w1).length) TL7 fun p1 G8 s8 b1 => ?_⟩
      rw [List.length_map, f1] at b1
      refine ⟨_, rfl, _, rfl, vL, _, rfl, .inr (Same.tup' s8 TL7), _, rfl, a2, _, rfl, .inr (Same.tup' s8 u2), _, _, rfl, rfl, _, rfl, noPart (sl_any (Same.tup' s8 TL7) fun p2 G9 s9 b2 => ⟨z2, fun ld nld => ?_⟩)⟩
      rw [show (((y :: s).map V.str).length : Int) - ((w2.reverse.map V.str).length : Int) = (((y :: s).length - w2.length : Nat) : Int) by rw [List.length_map, List.length_map, List.length_reverse, List.length_cons]; omega, cut_from, ← List.map_drop, f2] at b2
      have sld := same_upd (o := .lst [.ref p1, .ref p2]) nld
      have hld := upd_same (H := G9) (a := ld) (o := .lst [.ref p1, .ref p2])
      have k10 := (s8.trans s9).trans sld
      have v1a := Same.tup' k10 v1
      have u2a := Same.tup' k10 u2
      have TLa := Same.tup' k10 TL7
      have b1a := Same.tup' (s9.trans sld) b1
      have b2a := Same.tup' sld b2
      have kG := k7.trans k10
      generalize upd G9 ld (.lst [.ref p1, .ref p2]) = G10 at hld v1a u2a TLa b1a b2a kG
      refine ⟨_, rfl, _, rfl, z2, fun lg nlg => ⟨_, rfl, .ref lg, .ref ld, .list ([w1, w2.reverse].map dRow), rfl, ?_, ?_, sm_rows _ (by show 2 < 1000; decide) ?_, fun G11 s11 => ⟨true, rfl, iteF ?_⟩⟩⟩
      · exact .lst (SqL.of upd_same) (.cons (row_dp (Same.tup' (same_upd nlg) v1a)) (.cons (row_dp (Same.tup' (same_upd nlg) u2a)) .nil))
      · exact .lst (SqL.of (same_upd nlg _ _ hld)) (.cons (row_dp (Same.tup' (same_upd nlg) b1a)) (.cons (row_dp (Same.tup' (same_upd nlg) b2a)) .nil))
      · intro q hq
        rcases List.mem_cons.mp hq with z | z
        · rw [z]; omega
        · rw [List.mem_singleton.mp z, List.length_reverse]; omega
      have s10 := (same_upd nlg).trans s11
      have v1b := Same.tup' s10 v1a
      have u2b := Same.tup' s10 u2a
      have TLb := Same.tup' s10 TLa
      have kH := kG.trans s10
      refine ⟨_, rfl, a1, _, rfl, .inr v1b, _, _, rfl, rfl, _, rfl, ?_⟩
      rw [decide_eq_false (by rw [List.length_map]; omega)]
      refine iteF ?_
      -- the loop
      refine ⟨_, rfl, a1, _, rfl, .inr v1b, _, rfl, a1, _, rfl, .inr v1b, _, rfl, vL, _, rfl, .inr TLb, _, _, rfl, rfl, .inr ⟨_, rfl, _, _, rfl, rfl, _, _, rfl, ?_, ?_⟩⟩
      · rw [List.length_map]
        split <;> refine ⟨by decide, by decide, ?_, ?_⟩ <;> omega
      rw [List.length_map (f := V.str) (as := w1)]
      generalize hjv : ((w1.length : Int) + (if decide ((w1.length : Int) < ((List.map V.str (y :: s)).length : Int)) = true then 1 else 0)) = jv
      have hjb : (w1.length : Int) ≤ jv ∧ (w1.length < s.length + 1 → jv = (w1.length : Int) + 1) ∧ (¬ w1.length < s.length + 1 → jv = (w1.length : Int)) := by
        rw [List.length_map, List.length_cons] at hjv
        by_cases c : w1.length < s.length + 1
        · rw [if_pos (decide_eq_true (by omega))] at hjv
          exact ⟨by omega, fun _ => by omega, fun z => absurd c z⟩
        · rw [if_neg (by rw [decide_eq_false (by omega)]; decide)] at hjv
          exact ⟨by omega, fun z => absurd z c, fun _ => by omega⟩
      refine for_range (lo := 1) (n := (jv - 1).toNat) (fun i σ H' => ∃ x7 x8 x9 x10, σ = [some (.ref b), some (.ref v), x2, some (.ref ld), some (.ref vL), some (.ref a1), some (.ref a2), x7, x8, x9, x10, none, none] ∧ Same G11 H') ⟨none, none, none, none, rfl, Same.refl _⟩ ?_ ?_
      · rintro k σ H' hk ⟨x7, x8, x9, x10, rfl, sH⟩
        have hkw : k < w1.length := by
          by_cases c : w1.length < s.length + 1
          · have := hjb.2.1 c; omega
          · have := hjb.2.2 c; omega
        have hks : k < s.length := by
          by_cases c : w1.length < s.length + 1
          · have := hjb.2.1 c; omega
          · have := hjb.2.2 c; omega
        rw [show (1 : Int) + (k : Int) = (k : Int) + 1 by omega]
        obtain ⟨sk, hsk⟩ : ∃ sk, (y :: s)[k]? = some sk := ⟨_, List.getElem?_eq_getElem (by rw [List.length_cons]; omega)⟩
        have hE : (y :: s).zip ((y :: s).drop 1) = stp y s := by
          rw [show (y :: s).drop 1 = s from rfl, stp_zip]
        have hkk : (k : Int) + 1 - 1 = (k : Int) := by omega
        have atk : atI ((y :: s).map V.str) ((k : Int) + 1 - 1) = some (.str sk) := by
          rw [hkk]
          exact atI_nat (by rw [List.getElem?_map, hsk]; rfl)
        have hEl : (stp y s).length ≤ 30 := by rw [stp_length]; exact hsl
        have TLc := Same.tup' sH TLb
        refine ⟨_, rfl, _, rfl, 1, rfl, noPart (sl_any TLc fun p H1 s1 h1 => ?_)⟩
        rw [show cutV ((y :: s).map V.str) (some (1 : Int)) none = ((y :: s).drop 1).map V.str by rw [show (1 : Int) = ((1 : Nat) : Int) from rfl, cut_from, List.map_drop]] at h1
        refine ⟨vL, p, _, _, rfl, Same.tup' s1 TLc, h1, fun H2 pl pa s2 npl hpl z => ?_⟩
        have hA2 := zipd_pairs (K := K) z
        rw [hE] at hA2
        refine ⟨_, rfl, _, _, rfl, rfl, _, rfl, noPart ⟨pl, _, rfl, SqL.of hpl, fun ll nll => ?_⟩⟩
        rw [hkk, cut_from]
        have s12 := s1.trans s2
        have sl := same_upd (o := .lst ((pa.map V.ref).drop k)) nll
        have hAk : DpAll K (upd H2 ll (.lst ((pa.map V.ref).drop k))) ((pa.map V.ref).drop k) (((stp y s).drop k).map dPair) := by
          rw [List.map_drop (f := dPair)]
          exact dpAll_same sl _ _ (dpAll_drop k hA2)
        have hll := upd_same (H := H2) (a := ll) (o := .lst ((pa.map V.ref).drop k))
        have kk1 := (sH.trans s12).trans sl
        generalize upd H2 ll (.lst ((pa.map V.ref).drop k)) = H3' at hAk hll kk1
        have hxl : ((pa.map V.ref).drop k).length = ((stp y s).drop k).length := by rw [dpAll_len hAk, List.length_map]
        generalize (pa.map V.ref).drop k = xs at hAk hll hxl
        have hEkl : ((stp y s).drop k).length ≤ 30 := by rw [List.length_drop]; omega
        have at0p : ∀ {e : Str × Str}, atI [V.str e.1, .str e.2] 0 = some (.str e.1) := fun {e} => atI_nat (j := 0) rfl
        have at1p : ∀ {e : Str × Str}, atI [V.str e.1, .str e.2] 1 = some (.str e.2) := fun {e} => atI_nat (j := 1) rfl
        have TLd := Same.tup' kk1 TLb
        -- the tags
        refine ⟨_, rfl, ll, rfl, ⟨_, SqL.of hll⟩, fun D nD => ?_⟩
        refine lc_list (K := K) (a := ll) (xs := xs) (fun j H' => Same H3' H' ∧ ∃ vs : List Str, H' D = some (.lst (vs.map V.str)) ∧ vs = ((((stp y s).drop k).take j).filter fun e => decide (e.1 = sk)).map (·.2) ∧ vs.length ≤ j) ⟨same_upd nD, [], upd_same, rfl, Nat.le_refl _⟩ (fun j H' _ h => SqL.of (h.1 _ _ hll)) ?_ ?_
        · rintro j v' H' hj ⟨sJ, vs, hD, hvs, hvl⟩
          obtain ⟨e, p', hei, hem, rfl, hp'⟩ := pair_at hAk hj
          have hpH := Same.tup' sJ hp'
          have hjl := (List.getElem?_eq_some_iff.mp hei).1
          refine ⟨rfl, _, rfl, p', _, _, _, rfl, rfl, hpH, at0p, _, rfl, _, rfl, _, _, rfl, rfl, vL, _, _, _, rfl, rfl, Same.tup' sJ TLd, atk, rfl, _, rfl, ?_⟩
          by_cases he : e.1 = sk
          · rw [decide_eq_true (by rw [he])]
            refine iteT ⟨_, rfl, p', _, _, _, rfl, rfl, hpH, at1p, _, hD, by rw [List.length_map, sizeLine_eq]; omega, fun c o hc => ?_, vs ++ [e.2], by rw [upd_same, List.map_append]; rfl, ?_, by rw [List.length_append]; exact Nat.succ_le_succ hvl⟩
            · rw [upd_ne (ne_of_none hc nD)]
              exact sJ _ _ hc
            · rw [take_snoc hei, List.filter_append, List.map_append, ← hvs]
              simp [he]
          · rw [decide_eq_false (fun z => he (V.str.inj z))]
            refine iteF ⟨sJ, vs, hD, ?_, by omega⟩
            rw [take_snoc hei, List.filter_append, List.map_append, ← hvs]
            simp [he]
        rintro H4' ⟨sJ, vs, hD, hvs, hvl⟩
        rw [take_all (xs := (stp y s).drop k) (n := xs.length) (by omega)] at hvs
        refine ⟨D, vs, rfl, SqL.of hD, by omega, fun ps nps => ⟨ps, _, _, rfl, upd_same, by omega, fun ys pl2 ynd ym yl _ np2 => ?_⟩⟩
        have kk2 := (sJ.trans (same_upd (o := SetOS (cxOf CX0 P w K mg base NR "_law_right" (defScope sLRight) f cdv A outer sh H E).nox.w ps (fun k => k ∈ vs) vs.length) nps)).trans (same_upd (o := .lst (ys.map V.str)) np2)
        have hpl2 := upd_same (H := upd H4' ps (SetOS (cxOf CX0 P w K mg base NR "_law_right" (defScope sLRight) f cdv A outer sh H E).nox.w ps (fun k => k ∈ vs) vs.length)) (a := pl2) (o := .lst (ys.map V.str))
        have hys : ∀ t, t ∈ ys ↔ (sk, t) ∈ (stp y s).drop k := fun t => by
          rw [ym, hvs, List.mem_map]
          constructor
          · rintro ⟨e, he, rfl⟩
            obtain ⟨h1, h2⟩ := List.mem_filter.mp he
            have : e.1 = sk := of_decide_eq_true h2
            rw [← this]
            exact h1
          · intro h
            exact ⟨(sk, t), List.mem_filter.mpr ⟨h, decide_eq_true rfl⟩, rfl⟩
        have kk3 := kk1.trans kk2
        have TLe := Same.tup' kk3 TLb
        -- how many go on
        refine ⟨_, rfl, pl2, rfl, ⟨_, SqL.of hpl2⟩, fun D2 nD2 => ?_⟩
        refine lc_list (K := K) (a := pl2) (xs := ys.map V.str) (fun j H' => Same _ H' ∧ ∃ vs : List Str, H' D2 = some (.lst (vs.map V.str)) ∧ vs.length ≤ j ∧ vs.Nodup ∧ ∀ t, t ∈ vs ↔ t ∈ ys.take j ∧ Conn t (((stp y s).drop k).erase (sk, t))) ⟨same_upd nD2, [], upd_same, Nat.le_refl _, List.nodup_nil, fun t => by simp⟩ (fun j H' _ h => SqL.of (h.1 _ _ hpl2)) ?_ ?_
        · rintro j v' H' hj ⟨sN, ws, hD2, hwl, hwn, hwm⟩
          obtain ⟨t, ht, rfl⟩ := str_at hj
          have hjl := (List.getElem?_eq_some_iff.mp ht).1
          have htm : (sk, t) ∈ (stp y s).drop k := (hys t).1 (List.mem_of_getElem? ht)
          refine ⟨rfl, _, rfl, _, rfl, _, rfl, vL, y, s, k, sk, t, rfl, Same.tup' sN TLe, hsk, htm, hunL, hskPL, hsl, fun bb H'' s'' hbb => ⟨bb, rfl, ?_⟩⟩
          have htn : t ∉ ys.take j := fun z => by
            have nd2 : (ys.take (j + 1)).Nodup := ynd.sublist (List.take_sublist ..)
            rw [take_snoc ht, List.nodup_append] at nd2
            exact nd2.2.2 t z t (by simp) rfl
          cases bb with
          | true =>
            have hcon := hbb.1 rfl
            refine iteT ⟨_, rfl, _, s'' _ _ hD2, by rw [List.length_map, sizeLine_eq]; omega, fun c o hc => ?_, ws ++ [t], by rw [upd_same, List.map_append]; rfl, by rw [List.length_append]; exact Nat.succ_le_succ hwl, ?_, fun u => ?_⟩
            · rw [upd_ne (ne_of_none hc nD2)]
              exact s'' _ _ (sN _ _ hc)
            · rw [List.nodup_append]
              refine ⟨hwn, by simp, fun a ha c hc e => ?_⟩
              rw [List.mem_singleton.mp hc] at e
              subst e
              exact htn ((hwm _).1 ha).1
            · rw [take_snoc ht, List.mem_append, List.mem_append, hwm, List.mem_singleton]
              constructor
              · rintro (z | z)
                · exact ⟨.inl z.1, z.2⟩
                · rw [z]; exact ⟨.inr rfl, hcon⟩
              · rintro ⟨z | z, cz⟩
                · exact .inl ⟨z, cz⟩
                · exact .inr z
          | false =>
            have hcon : ¬ Conn t (((stp y s).drop k).erase (sk, t)) := fun z => by cases hbb.2 z
            refine iteF ⟨sN.trans s'', ws, s'' _ _ hD2, by omega, hwn, fun u => ?_⟩
            rw [take_snoc ht, List.mem_append, hwm, List.mem_singleton]
            constructor
            · rintro ⟨z, cz⟩
              exact ⟨.inl z, cz⟩
            · rintro ⟨z | z, cz⟩
              · exact ⟨z, cz⟩
              · rw [z] at cz; exact absurd cz hcon
        rintro H7' ⟨sN, ws, hD2, hwl, hwn, hwm⟩
        rw [take_all (xs := ys) (n := (ys.map V.str).length) (by rw [List.length_map]; exact Nat.le_refl _)] at hwm
        have kk4 := kk3.trans sN
        have hfar := far_iff (ns := ws) e1 hsk hkw (by omega) hwn fun t => by rw [hwm, hys]
        refine ⟨D2, _, rfl, .inl (SqL.of hD2), _, rfl, rfl, _, rfl, _, rfl, a1, _, rfl, .inr (Same.tup' kk4 v1b), _, _, rfl, rfl, rfl, _, rfl, ?_⟩
        rw [List.length_map, List.length_map]
        have hval : (!decide (V.bl (decide (V.int (ws.length : Int) = V.int 1)) = V.bl (decide ((k : Int) + 1 < (w1.length : Int))))) = false := by
          have h1 : decide (V.int (ws.length : Int) = V.int 1) = decide ((k : Int) + 1 < (w1.length : Int)) := decide_eq_decide.mpr ⟨fun z => by
            have := hfar.1 (by have := V.int.inj z; omega)
            omega, fun z => by rw [hfar.2 (by omega)]; rfl⟩
          rw [h1, decide_eq_true rfl]
          rfl
        rw [hval]
        exact iteF ⟨_, _, _, _, rfl, kk4⟩
      · rintro σ H' ⟨x7, x8, x9, x10, rfl, sH⟩
        obtain ⟨r', hrev, hperm⟩ := turn_perm (List.Perm.refl (stp y s))
        have TLf := Same.tup' sH TLb
        have eokR : EOk (stp (lst y s) r') := eokL.sw.perm hperm.symm
        refine ⟨_, rfl, rfl, _, rfl, vL, _, rfl, TLf, fun pr npr => ⟨.ref pr, lst y s, r', rfl, row_dp (SqT.of (by rw [upd_same, ← List.map_reverse, hrev])), eokR, fun c3 J1 t1 C3 => ⟨c3, lst y s, _, rfl, C3, eokR, had_stp r' (lst y s), fun a3 w3 J2 t2 u3 e3 _ => ⟨a3, _, rfl, u3, fun pz npz => ?_⟩⟩⟩⟩
        rw [turned_eq e2 hrev e3]
        have tt := (((same_upd npr).trans t1).trans t2).trans (same_upd (o := .tup (w2.map V.str).reverse) npz)
        refine ⟨.ref a2, .ref pz, dRow w2.reverse, rfl, row_dp (Same.tup' (sH.trans tt) u2b), row_dp (SqT.of (by rw [upd_same, List.map_reverse])), sm_row _ (by rw [List.length_reverse]; omega), fun J3 t3 => ?_⟩
        have kz := ((kH.trans sH).trans tt).trans t3
        exact q J3 (cb.same kz) (hBG.trans (Same.but kz))
end
end K76
set_option Elab.async false
set_option linter.all false
set_option maxRecDepth 100000
/-! Walk: law. -/
namespace K76
open PySem PySem.Spec PyProof.Rows L2
section
variable {P : Program} {w : World} {K : PySem.W.Frag} {mg : Str → Option Value} {base : Heap} {C : Addr}
def spLaw (K : PySem.W.Frag) : Sp := fun vs H Q _ => ∃ (a : Addr) (ns : List Int), vs = [.ref a] ∧ SqL K H a (ns.map V.int) ∧ ns.length ≤ 63 ∧ ∀ H', Q (.bl true) H'
theorem ok_law {f fC fH fX fR : Addr} {fd fdC fdH fdX fdR : FuncData} (F : Fun K "law" "law" sLLaw f fd) (B : Bn mg) (GC : Gd P w K mg base 1 "_law_cells" ["_law_script", "_law_most_so"] (spCells K) fC fdC) (GH : Gd P w K mg base 11 "_law_by_hand_right" [] (spTrue K) fH fdH)
    (GX : Gd P w K mg base 1 "_law_box" ["_law_script", "_law_k"] (spBox K) fX fdX) (GR : Gd P w K mg base 11 "_law_right" ["_law_box_here"] (spRight K) fR fdR) : FnOk P w K mg base CX0 12 f fd ["_law_script"] (spLaw K) := by
  refine F.ok scLLaw (fun vs H Q E h => ?_) (fun cdv A outer sh H vs Q E hr h => ?_)
  · obtain ⟨a, ns, rfl, _⟩ := h
    rfl
  · obtain ⟨a, ns, rfl, hS, hl, q⟩ := h
    have hr1 : Room 1 _ := hr.mono (by decide)
    refine ⟨_, pss_cons (ps_set (i := 1) scLLaw.nd rfl (.inl rfl) (pe_g GC hr1 (by rfl) (pa_cons (pv 0) (pa_cons pe_int pa_nil))))
      (pss_cons (ps_if (pt_not (pt_val (pe_call0 GH.ok hr (by rfl) GH.gm GH.kp GH.bd .nil pass0))) (pss_one (ps_ret pe_bl)) pss_nil)
      (pss_cons (ps_for PassesOwn.never rfl (pi_range1 (by rfl) B.range (pa_cons (pe_callB call_len_seq (by rfl) B.len PySem.boot_len (pa_cons (pv 1) pa_nil)) pa_nil)) (pg_name (i := 2) scLLaw.nd rfl (.inl rfl))
        (pss_cons (ps_set (i := 3) scLLaw.nd rfl (.inr rfl) (pe_g GX hr1 (by rfl) (pa_cons (pv 1) (pa_cons (pv 2) pa_nil))))
        (pss_one (ps_if (pt_not (pt_val (pe_callB (cr_all rfl) (by rfl) B.all (by decide +kernel) (pa_cons
          (pe_lc (own := [("_law_turn", 4)]) (g := gName 4) (tt := tYes) (te := tCall (spRight K) [] E0 (tCons (tVar 3) tNil)) (by rfl) scLLaw.nd (pi_range1 (by rfl) B.range (pa_cons pe_int pa_nil)) (blkOk_by (own := [("_law_turn", 4)]) (N := ["_law_script", "_law_cells_here", "_law_k", "_law_box_here", "_law_turn"]) (sc := defScope sLLaw) (by decide +kernel))
            (fun _ _ _ _ _ => pg_name (i := 4) scLLaw.nd rfl (.inl rfl)) (fun _ _ _ _ _ => pts_nil) (fun _ _ _ _ _ => pe_g GR hr (by rfl) (pa_cons (pv 3) pa_nil))) pa_nil)))) (pss_one (ps_ret pe_bl)) pss_nil))))
      (pss_one (ps_ret pe_bl)))), ?_⟩
    refine ⟨_, rfl, a, ns, rfl, hS, hl, fun l cs H1 s1 nl hcs hc1 hc3 => ?_⟩
    refine ⟨rfl, fun H2 s2 => ⟨true, rfl, iteF ?_⟩⟩
    have hcs2 := s2 _ _ hcs
    refine ⟨_, rfl, l, _, rfl, .inl (SqL.of hcs2), _, rfl, (by rw [List.length_map]; omega), (by rw [List.length_map]; omega), ?_⟩
    refine for_range (lo := 0) (n := ((cs.map V.int).length : Int).toNat) (fun i σ H' => ∃ x2 x3, σ = [some (.ref a), some (.ref l), x2, x3, none] ∧ Same H2 H') ⟨none, none, rfl, Same.refl _⟩ ?_ ?_
    · rintro i σ H' hi ⟨x2, x3, rfl, sH⟩
      have hcsH := sH _ _ hcs2
      rw [show (0 : Int) + (i : Int) = (i : Int) by omega]
      refine ⟨_, rfl, _, rfl, l, cs, i, rfl, SqL.of hcsH, (by rw [List.length_map] at hi; omega), fun b H3 s3 nb hb => ?_⟩
      have nbb := hb
      refine ⟨5, rfl, by decide, by decide, fun D nD => ?_⟩
      have neD : D ≠ b := fun e => by
        obtain ⟨o, ho⟩ := hb.some
        rw [e, ho] at nD
        cases nD
      have nDH : H' D = none := s3.free nD
      refine lc_range (lo := 0) (n := (5 : Int).toNat) (fun j H'' => Same H' H'' ∧ BoxAt H'' b (220 * j) ∧ H'' D = some (.lst ((List.replicate j true).map V.bl))) ⟨s3.trans (same_upd nD), by simpa using hb.same (same_upd nD), upd_same⟩ ?_ ?_
      · rintro j H'' hj ⟨sJ, hbJ, hDJ⟩
        have hj5 : j < 5 := hj
        refine ⟨rfl, _, rfl, b, 220 * j, rfl, hbJ, by omega, fun H4 hb4 hB4 => ⟨_, hB4 _ _ neD hDJ, by rw [List.length_map, List.length_replicate, sizeLine_eq]; omega, fun c o hc => ?_, ?_, ?_⟩⟩
        · rw [upd_ne (ne_of_none hc nDH)]
          exact hB4 _ _ (ne_of_none hc nb) (sJ _ _ hc)
        · obtain ⟨b0, b1, b2, g1, g2⟩ := hb4
          refine ⟨b0, b1, b2, by rw [upd_ne (Ne.symm neD)]; exact g1, g2.1, g2.2.1, ?_⟩
          have := g2.2.2
          omega
        · rw [upd_same, List.replicate_succ', List.map_append]
          rfl
      · rintro H4 ⟨sJ, hbJ, hDJ⟩
        exact ⟨D, _, rfl, SqL.of hDJ, true, rfl, iteF ⟨_, _, rfl, sH.trans sJ⟩⟩
    · rintro σ H' ⟨x2, x3, rfl, sH⟩
      exact q H'
end
end K76
set_option Elab.async false
set_option linter.all false
set_option maxRecDepth 100000
namespace K76
open PySem PySem.Spec PyProof.Rows L2

set_option maxHeartbeats 0 in
theorem all_mk {l : PySem.W.OpenLaw} {w : World} {K : PySem.W.Frag} {h : Heap} {mg : Str → Option Value} {fa : Addr} (X : K.In h) (G : h.Ns mainGlobals mg) (hfa : mg "law" = some (.ref fa))
    {C f0 f1 f2 f3 f4 f5 f6 f7 f8 f9 f10 f11 f12 f13 f14 f15 f16 f17 f18 f19 f20 f21 f22 f23 f24 f25 f26 f27 f28 f29 f30 f31 f100 dT dE f101 p101 f102 p102 f103 p103 f104 p104 f105 f106 f107 f108 f109 f110 : Addr} {od0 an0 od1 an1 od2 an2 od3 an3 od4 an4 od5 an5 od6 an6 od7 an7 od8 an8 od9 an9 od10 an10 od11 an11 od12 an12 od13 an13 od14 an14 od15 an15 od16 an16 od17 an17 od18 an18 od19 an19 od20 an20 od21 an21 od22 an22 od23 an23 od24 an24 od25 an25 od26 an26 od27 an27 od28 an28 od29 an29 od30 an30 od31 an31 od100 an100 odT odE od101 an101 od102 an102 od103 an103 od104 an104 od105 an105 od106 an106 od107 an107 od108 an108 od109 an109 od110 an110 : Option Addr} {sl0 sl1 sl2 sl3 sl4 sl5 sl6 sl7 sl8 sl9 sl10 sl11 sl12 sl13 sl14 sl15 sl16 sl17 sl18 sl19 sl20 sl21 sl22 sl23 sl24 sl25 sl26 sl27 sl28 sl29 sl30 sl31 sl100 slT slE sl101 sl102 sl103 sl104 sl105 sl106 sl107 sl108 sl109 sl110 : Array (Option Value)} {oc0 kV0 dc0 pm0 cd0 ct0 oc1 kV1 dc1 pm1 cd1 ct1 oc2 kV2 dc2 pm2 cd2 ct2 oc3 kV3 dc3 pm3 cd3 ct3 oc4 kV4 dc4 pm4 cd4 ct4 oc5 kV5 dc5 pm5 cd5 ct5 oc6 kV6 dc6 pm6 cd6 ct6 oc7 kV7 dc7 pm7 cd7 ct7 oc8 kV8 dc8 pm8 cd8 ct8 oc9 kV9 dc9 pm9 cd9 ct9 oc10 kV10 dc10 pm10 cd10 ct10 oc11 kV11 dc11 pm11 cd11 ct11 oc12 kV12 dc12 pm12 cd12 ct12 oc13 kV13 dc13 pm13 cd13 ct13 oc14 kV14 dc14 pm14 cd14 ct14 oc15 kV15 dc15 pm15 cd15 ct15 oc16 kV16 dc16 pm16 cd16 ct16 oc17 kV17 dc17 pm17 cd17 ct17 oc18 kV18 dc18 pm18 cd18 ct18 oc19 kV19 dc19 pm19 cd19 ct19 oc20 kV20 dc20 pm20 cd20 ct20 oc21 kV21 dc21 pm21 cd21 ct21 oc22 kV22 dc22 pm22 cd22 ct22 oc23 kV23 dc23 pm23 cd23 ct23 oc24 kV24 dc24 pm24 cd24 ct24 oc25 kV25 dc25 pm25 cd25 ct25 oc26 kV26 dc26 pm26 cd26 ct26 oc27 kV27 dc27 pm27 cd27 ct27 oc28 kV28 dc28 pm28 cd28 ct28 oc29 kV29 dc29 pm29 cd29 ct29 oc30 kV30 dc30 pm30 cd30 ct30 oc31 kV31 dc31 pm31 cd31 ct31 oc100 kV100 dc100 pm100 cd100 ct100 ocT oc101 kV101 dc101 pm101 cd101 ct101 oc102 kV102 dc102 pm102 cd102 ct102 oc103 kV103 dc103 pm103 cd103 ct103 oc104 kV104 dc104 pm104 cd104 ct104 oc105 kV105 dc105 pm105 cd105 ct105 oc106 kV106 dc106 pm106 cd106 ct106 oc107 kV107 dc107 pm107 cd107 ct107 oc108 kV108 dc108 pm108 cd108 ct108 oc109 kV109 dc109 pm109 cd109 ct109 oc110 kV110 dc110 pm110 cd110 ct110 : Value} {r101 r102 r103 r104 : List Value} {nT nE : Nat} {z1 z2 : Str} {t1 t2 : Tok}
    (aC : PySem.W.nsIn K mainGlobals "Counts" = some (some (.ref C)))
    (a0 : PySem.W.nsIn K mainGlobals "tidy" = some (some (.ref f0)))
    (l0 : K.lookup f0 = some ⟨oc0, od0, .func (PySem.W.fnOf "tidy" "tidy" (defArgs sTidy) (defBody sTidy) (defScope sTidy) .none kV0 dc0 pm0 an0 cd0 ct0), sl0⟩)
    (c0 : PySem.W.codeIn K cd0 "tidy" = true)
    (k0 : PySem.W.keepIn K (.ref f0) = true)
    (a1 : PySem.W.nsIn K mainGlobals "set_of" = some (some (.ref f1)))
    (l1 : K.lookup f1 = some ⟨oc1, od1, .func (PySem.W.fnOf "set_of" "set_of" (defArgs sSetOf) (defBody sSetOf) (defScope sSetOf) .none kV1 dc1 pm1 an1 cd1 ct1), sl1⟩)
    (c1 : PySem.W.codeIn K cd1 "set_of" = true)
    (k1 : PySem.W.keepIn K (.ref f1) = true)
    (a2 : PySem.W.nsIn K mainGlobals "steps_of" = some (some (.ref f2)))
    (l2 : K.lookup f2 = some ⟨oc2, od2, .func (PySem.W.fnOf "steps_of" "steps_of" (defArgs sStepsOf) (defBody sStepsOf) (defScope sStepsOf) .none kV2 dc2 pm2 an2 cd2 ct2), sl2⟩)
    (c2 : PySem.W.codeIn K cd2 "steps_of" = true)
    (k2 : PySem.W.keepIn K (.ref f2) = true)
    (a3 : PySem.W.nsIn K mainGlobals "table_of" = some (some (.ref f3)))
    (l3 : K.lookup f3 = some ⟨oc3, od3, .func (PySem.W.fnOf "table_of" "table_of" (defArgs sTableOf) (defBody sTableOf) (defScope sTableOf) .none kV3 dc3 pm3 an3 cd3 ct3), sl3⟩)
    (c3 : PySem.W.codeIn K cd3 "table_of" = true)
    (k3 : PySem.W.keepIn K (.ref f3) = true)
    (a4 : PySem.W.nsIn K mainGlobals "sums_of" = some (some (.ref f4)))
    (l4 : K.lookup f4 = some ⟨oc4, od4, .func (PySem.W.fnOf "sums_of" "sums_of" (defArgs sSumsOf) (defBody sSumsOf) (defScope sSumsOf) .none kV4 dc4 pm4 an4 cd4 ct4), sl4⟩)
    (c4 : PySem.W.codeIn K cd4 "sums_of" = true)
    (k4 : PySem.W.keepIn K (.ref f4) = true)
    (a5 : PySem.W.nsIn K mainGlobals "surplus" = some (some (.ref f5)))
    (l5 : K.lookup f5 = some ⟨oc5, od5, .func (PySem.W.fnOf "surplus" "surplus" (defArgs sSurplus) (defBody sSurplus) (defScope sSurplus) .none kV5 dc5 pm5 an5 cd5 ct5), sl5⟩)
    (c5 : PySem.W.codeIn K cd5 "surplus" = true)
    (k5 : PySem.W.keepIn K (.ref f5) = true)
    (a6 : PySem.W.nsIn K mainGlobals "pieces" = some (some (.ref f6)))
    (l6 : K.lookup f6 = some ⟨oc6, od6, .func (PySem.W.fnOf "pieces" "pieces" (defArgs sPieces) (defBody sPieces) (defScope sPieces) .none kV6 dc6 pm6 an6 cd6 ct6), sl6⟩)
    (c6 : PySem.W.codeIn K cd6 "pieces" = true)
    (k6 : PySem.W.keepIn K (.ref f6) = true)
    (a7 : PySem.W.nsIn K mainGlobals "why_none" = some (some (.ref f7)))
    (l7 : K.lookup f7 = some ⟨oc7, od7, .func (PySem.W.fnOf "why_none" "why_none" (defArgs sWhyNone) (defBody sWhyNone) (defScope sWhyNone) .none kV7 dc7 pm7 an7 cd7 ct7), sl7⟩)
    (c7 : PySem.W.codeIn K cd7 "why_none" = true)
    (k7 : PySem.W.keepIn K (.ref f7) = true)
    (a8 : PySem.W.nsIn K mainGlobals "is_had" = some (some (.ref f8)))
    (l8 : K.lookup f8 = some ⟨oc8, od8, .func (PySem.W.fnOf "is_had" "is_had" (defArgs sIsHad) (defBody sIsHad) (defScope sIsHad) .none kV8 dc8 pm8 an8 cd8 ct8), sl8⟩)
    (c8 : PySem.W.codeIn K cd8 "is_had" = true)
    (k8 : PySem.W.keepIn K (.ref f8) = true)
    (a9 : PySem.W.nsIn K mainGlobals "need" = some (some (.ref f9)))
    (l9 : K.lookup f9 = some ⟨oc9, od9, .func (PySem.W.fnOf "need" "need" (defArgs sNeed) (defBody sNeed) (defScope sNeed) .none kV9 dc9 pm9 an9 cd9 ct9), sl9⟩)
    (c9 : PySem.W.codeIn K cd9 "need" = true)
    (k9 : PySem.W.keepIn K (.ref f9) = true)
    (a10 : PySem.W.nsIn K mainGlobals "end_of" = some (some (.ref f10)))
    (l10 : K.lookup f10 = some ⟨oc10, od10, .func (PySem.W.fnOf "end_of" "end_of" (defArgs sEndOf) (defBody sEndOf) (defScope sEndOf) .none kV10 dc10 pm10 an10 cd10 ct10), sl10⟩)
    (c10 : PySem.W.codeIn K cd10 "end_of" = true)
    (k10 : PySem.W.keepIn K (.ref f10) = true)
    (a11 : PySem.W.nsIn K mainGlobals "turned_counts" = some (some (.ref f11)))
    (l11 : K.lookup f11 = some ⟨oc11, od11, .func (PySem.W.fnOf "turned_counts" "turned_counts" (defArgs sTurned) (defBody sTurned) (defScope sTurned) .none kV11 dc11 pm11 an11 cd11 ct11), sl11⟩)
    (c11 : PySem.W.codeIn K cd11 "turned_counts" = true)
    (k11 : PySem.W.keepIn K (.ref f11) = true)
    (a12 : PySem.W.nsIn K mainGlobals "gone" = some (some (.ref f12)))
    (l12 : K.lookup f12 = some ⟨oc12, od12, .func (PySem.W.fnOf "gone" "gone" (defArgs sGone) (defBody sGone) (defScope sGone) .none kV12 dc12 pm12 an12 cd12 ct12), sl12⟩)
    (c12 : PySem.W.codeIn K cd12 "gone" = true)
    (k12 : PySem.W.keepIn K (.ref f12) = true)
    (a13 : PySem.W.nsIn K mainGlobals "open_steps" = some (some (.ref f13)))
    (l13 : K.lookup f13 = some ⟨oc13, od13, .func (PySem.W.fnOf "open_steps" "open_steps" (defArgs sOpenS) (defBody sOpenS) (defScope sOpenS) .none kV13 dc13 pm13 an13 cd13 ct13), sl13⟩)
    (c13 : PySem.W.codeIn K cd13 "open_steps" = true)
    (k13 : PySem.W.keepIn K (.ref f13) = true)
    (a14 : PySem.W.nsIn K mainGlobals "sure_beginning" = some (some (.ref f14)))
    (l14 : K.lookup f14 = some ⟨oc14, od14, .func (PySem.W.fnOf "sure_beginning" "sure_beginning" (defArgs sSureB) (defBody sSureB) (defScope sSureB) .none kV14 dc14 pm14 an14 cd14 ct14), sl14⟩)
    (c14 : PySem.W.codeIn K cd14 "sure_beginning" = true)
    (k14 : PySem.W.keepIn K (.ref f14) = true)
    (a15 : PySem.W.nsIn K mainGlobals "sure_end" = some (some (.ref f15)))
    (l15 : K.lookup f15 = some ⟨oc15, od15, .func (PySem.W.fnOf "sure_end" "sure_end" (defArgs sSureE) (defBody sSureE) (defScope sSureE) .none kV15 dc15 pm15 an15 cd15 ct15), sl15⟩)
    (c15 : PySem.W.codeIn K cd15 "sure_end" = true)
    (k15 : PySem.W.keepIn K (.ref f15) = true)
    (a16 : PySem.W.nsIn K mainGlobals "_law_box" = some (some (.ref f16)))
    (l16 : K.lookup f16 = some ⟨oc16, od16, .func (PySem.W.fnOf "_law_box" "_law_box" (defArgs sLBox) (defBody sLBox) (defScope sLBox) .none kV16 dc16 pm16 an16 cd16 ct16), sl16⟩)
    (c16 : PySem.W.codeIn K cd16 "_law_box" = true)
    (k16 : PySem.W.keepIn K (.ref f16) = true)
    (a17 : PySem.W.nsIn K mainGlobals "_law_take" = some (some (.ref f17)))
    (l17 : K.lookup f17 = some ⟨oc17, od17, .func (PySem.W.fnOf "_law_take" "_law_take" (defArgs sLTake) (defBody sLTake) (defScope sLTake) .none kV17 dc17 pm17 an17 cd17 ct17), sl17⟩)
    (c17 : PySem.W.codeIn K cd17 "_law_take" = true)
    (k17 : PySem.W.keepIn K (.ref f17) = true)
    (a18 : PySem.W.nsIn K mainGlobals "_law_cells" = some (some (.ref f18)))
    (l18 : K.lookup f18 = some ⟨oc18, od18, .func (PySem.W.fnOf "_law_cells" "_law_cells" (defArgs sLCells) (defBody sLCells) (defScope sLCells) .none kV18 dc18 pm18 an18 cd18 ct18), sl18⟩)
    (c18 : PySem.W.codeIn K cd18 "_law_cells" = true)
    (k18 : PySem.W.keepIn K (.ref f18) = true)
    (a19 : PySem.W.nsIn K mainGlobals "_law_of" = some (some (.ref f19)))
    (l19 : K.lookup f19 = some ⟨oc19, od19, .func (PySem.W.fnOf "_law_of" "_law_of" (defArgs sLOf) (defBody sLOf) (defScope sLOf) .none kV19 dc19 pm19 an19 cd19 ct19), sl19⟩)
    (c19 : PySem.W.codeIn K cd19 "_law_of" = true)
    (k19 : PySem.W.keepIn K (.ref f19) = true)
    (a20 : PySem.W.nsIn K mainGlobals "_law_pick" = some (some (.ref f20)))
    (l20 : K.lookup f20 = some ⟨oc20, od20, .func (PySem.W.fnOf "_law_pick" "_law_pick" (defArgs sLPick) (defBody sLPick) (defScope sLPick) .none kV20 dc20 pm20 an20 cd20 ct20), sl20⟩)
    (c20 : PySem.W.codeIn K cd20 "_law_pick" = true)
    (k20 : PySem.W.keepIn K (.ref f20) = true)
    (a21 : PySem.W.nsIn K mainGlobals "_law_same" = some (some (.ref f21)))
    (l21 : K.lookup f21 = some ⟨oc21, od21, .func (PySem.W.fnOf "_law_same" "_law_same" (defArgs sLSame) (defBody sLSame) (defScope sLSame) .none kV21 dc21 pm21 an21 cd21 ct21), sl21⟩)
    (c21 : PySem.W.codeIn K cd21 "_law_same" = true)
    (k21 : PySem.W.keepIn K (.ref f21) = true)
    (a22 : PySem.W.nsIn K mainGlobals "_law_tags" = some (some (.ref f22)))
    (l22 : K.lookup f22 = some ⟨oc22, od22, .func (PySem.W.fnOf "_law_tags" "_law_tags" (defArgs sLTags) (defBody sLTags) (defScope sLTags) .none kV22 dc22 pm22 an22 cd22 ct22), sl22⟩)
    (c22 : PySem.W.codeIn K cd22 "_law_tags" = true)
    (k22 : PySem.W.keepIn K (.ref f22) = true)
    (a23 : PySem.W.nsIn K mainGlobals "_law_walk" = some (some (.ref f23)))
    (l23 : K.lookup f23 = some ⟨oc23, od23, .func (PySem.W.fnOf "_law_walk" "_law_walk" (defArgs sLWalk) (defBody sLWalk) (defScope sLWalk) .none kV23 dc23 pm23 an23 cd23 ct23), sl23⟩)
    (c23 : PySem.W.codeIn K cd23 "_law_walk" = true)
    (k23 : PySem.W.keepIn K (.ref f23) = true)
    (a24 : PySem.W.nsIn K mainGlobals "_law_tally" = some (some (.ref f24)))
    (l24 : K.lookup f24 = some ⟨oc24, od24, .func (PySem.W.fnOf "_law_tally" "_law_tally" (defArgs sLTally) (defBody sLTally) (defScope sLTally) .none kV24 dc24 pm24 an24 cd24 ct24), sl24⟩)
    (c24 : PySem.W.codeIn K cd24 "_law_tally" = true)
    (k24 : PySem.W.keepIn K (.ref f24) = true)
    (a25 : PySem.W.nsIn K mainGlobals "_law_less" = some (some (.ref f25)))
    (l25 : K.lookup f25 = some ⟨oc25, od25, .func (PySem.W.fnOf "_law_less" "_law_less" (defArgs sLLess) (defBody sLLess) (defScope sLLess) .none kV25 dc25 pm25 an25 cd25 ct25), sl25⟩)
    (c25 : PySem.W.codeIn K cd25 "_law_less" = true)
    (k25 : PySem.W.keepIn K (.ref f25) = true)
    (a26 : PySem.W.nsIn K mainGlobals "_law_all" = some (some (.ref f26)))
    (l26 : K.lookup f26 = some ⟨oc26, od26, .func (PySem.W.fnOf "_law_all" "_law_all" (defArgs sLAll) (defBody sLAll) (defScope sLAll) .none kV26 dc26 pm26 an26 cd26 ct26), sl26⟩)
    (c26 : PySem.W.codeIn K cd26 "_law_all" = true)
    (k26 : PySem.W.keepIn K (.ref f26) = true)
    (a27 : PySem.W.nsIn K mainGlobals "_law_shared" = some (some (.ref f27)))
    (l27 : K.lookup f27 = some ⟨oc27, od27, .func (PySem.W.fnOf "_law_shared" "_law_shared" (defArgs sLShared) (defBody sLShared) (defScope sLShared) .none kV27 dc27 pm27 an27 cd27 ct27), sl27⟩)
    (c27 : PySem.W.codeIn K cd27 "_law_shared" = true)
    (k27 : PySem.W.keepIn K (.ref f27) = true)
    (a28 : PySem.W.nsIn K mainGlobals "_law_goes_on" = some (some (.ref f28)))
    (l28 : K.lookup f28 = some ⟨oc28, od28, .func (PySem.W.fnOf "_law_goes_on" "_law_goes_on" (defArgs sLGoes) (defBody sLGoes) (defScope sLGoes) .none kV28 dc28 pm28 an28 cd28 ct28), sl28⟩)
    (c28 : PySem.W.codeIn K cd28 "_law_goes_on" = true)
    (k28 : PySem.W.keepIn K (.ref f28) = true)
    (a29 : PySem.W.nsIn K mainGlobals "_law_by_hand_right" = some (some (.ref f29)))
    (l29 : K.lookup f29 = some ⟨oc29, od29, .func (PySem.W.fnOf "_law_by_hand_right" "_law_by_hand_right" (defArgs sLHand) (defBody sLHand) (defScope sLHand) .none kV29 dc29 pm29 an29 cd29 ct29), sl29⟩)
    (c29 : PySem.W.codeIn K cd29 "_law_by_hand_right" = true)
    (k29 : PySem.W.keepIn K (.ref f29) = true)
    (a30 : PySem.W.nsIn K mainGlobals "_law_right" = some (some (.ref f30)))
    (l30 : K.lookup f30 = some ⟨oc30, od30, .func (PySem.W.fnOf "_law_right" "_law_right" (defArgs sLRight) (defBody sLRight) (defScope sLRight) .none kV30 dc30 pm30 an30 cd30 ct30), sl30⟩)
    (c30 : PySem.W.codeIn K cd30 "_law_right" = true)
    (k30 : PySem.W.keepIn K (.ref f30) = true)
    (a31 : PySem.W.nsIn K mainGlobals "law" = some (some (.ref f31)))
    (l31 : K.lookup f31 = some ⟨oc31, od31, .func (PySem.W.fnOf "law" "law" (defArgs sLLaw) (defBody sLLaw) (defScope sLLaw) .none kV31 dc31 pm31 an31 cd31 ct31), sl31⟩)
    (c31 : PySem.W.codeIn K cd31 "law" = true)
    (k31 : PySem.W.keepIn K (.ref f31) = true)
    (a100 : PySem.W.findIn K (.ref C) "__init__" = some (some (.ref f100)))
    (i100 : PySem.W.isFn K (.ref f100) = true)
    (l100 : K.lookup f100 = some ⟨oc100, od100, .func (PySem.W.fnOf "__init__" "Counts.__init__" (defArgs sInit) (defBody sInit) (defScope sInit) (.ref dT) kV100 dc100 pm100 an100 cd100 ct100), sl100⟩)
    (c100 : PySem.W.codeIn K cd100 "Counts.__init__" = true)
    (k100 : PySem.W.keepIn K (.ref f100) = true)
    (lT : K.lookup dT = some ⟨ocT, odT, .seq (List.toArray [.ref dE]) nT, slT⟩)
    (lE : K.lookup dE = some ⟨.type "tuple", odE, .seq (List.toArray []) nE, slE⟩)
    (a101 : PySem.W.findIn K (.ref C) "start" = some (some (.ref p101)))
    (g101 : PySem.W.specialIn K (.ref p101) "__get__" = some (some (.builtin "property.__get__")))
    (t101 : PySem.W.takesIn K (.ref p101) = some true)
    (e101 : PySem.W.recIn K p101 "property" = some (.ref f101 :: r101))
    (l101 : K.lookup f101 = some ⟨oc101, od101, .func (PySem.W.fnOf "start" "Counts.start" (defArgs sStart) (defBody sStart) (defScope sStart) .none kV101 dc101 pm101 an101 cd101 ct101), sl101⟩)
    (c101 : PySem.W.codeIn K cd101 "Counts.start" = true)
    (k101 : PySem.W.keepIn K (.ref f101) = true)
    (a102 : PySem.W.findIn K (.ref C) "steps" = some (some (.ref p102)))
    (g102 : PySem.W.specialIn K (.ref p102) "__get__" = some (some (.builtin "property.__get__")))
    (t102 : PySem.W.takesIn K (.ref p102) = some true)
    (e102 : PySem.W.recIn K p102 "property" = some (.ref f102 :: r102))
    (l102 : K.lookup f102 = some ⟨oc102, od102, .func (PySem.W.fnOf "steps" "Counts.steps" (defArgs sSteps) (defBody sSteps) (defScope sSteps) .none kV102 dc102 pm102 an102 cd102 ct102), sl102⟩)
    (c102 : PySem.W.codeIn K cd102 "Counts.steps" = true)
    (k102 : PySem.W.keepIn K (.ref f102) = true)
    (a103 : PySem.W.findIn K (.ref C) "places" = some (some (.ref p103)))
    (g103 : PySem.W.specialIn K (.ref p103) "__get__" = some (some (.builtin "property.__get__")))
    (t103 : PySem.W.takesIn K (.ref p103) = some true)
    (e103 : PySem.W.recIn K p103 "property" = some (.ref f103 :: r103))
    (l103 : K.lookup f103 = some ⟨oc103, od103, .func (PySem.W.fnOf "places" "Counts.places" (defArgs sPlaces) (defBody sPlaces) (defScope sPlaces) .none kV103 dc103 pm103 an103 cd103 ct103), sl103⟩)
    (c103 : PySem.W.codeIn K cd103 "Counts.places" = true)
    (k103 : PySem.W.keepIn K (.ref f103) = true)
    (m104 : PySem.W.readsIn K C (.type "type") = true)
    (g104 : PySem.W.specialIn K (.ref C) "__getattribute__" = some (some (.builtin "type.__getattribute__")))
    (a104 : PySem.W.findCls K (.ref C) (.type "type") "of" = some (.get (.builtin "staticmethod.__get__") (.ref p104) .none (.ref C)))
    (e104 : PySem.W.recIn K p104 "staticmethod" = some (.ref f104 :: r104))
    (l104 : K.lookup f104 = some ⟨oc104, od104, .func (PySem.W.fnOf "of" "Counts.of" (defArgs sOf) (defBody sOf) (defScope sOf) .none kV104 dc104 pm104 an104 cd104 ct104), sl104⟩)
    (c104 : PySem.W.codeIn K cd104 "Counts.of" = true)
    (k104 : PySem.W.keepIn K (.ref f104) = true)
    (a105 : PySem.W.findIn K (.ref C) "begun" = some (some (.ref f105)))
    (i105 : PySem.W.isFn K (.ref f105) = true)
    (l105 : K.lookup f105 = some ⟨oc105, od105, .func (PySem.W.fnOf "begun" "Counts.begun" (defArgs sBegun) (defBody sBegun) (defScope sBegun) .none kV105 dc105 pm105 an105 cd105 ct105), sl105⟩)
    (c105 : PySem.W.codeIn K cd105 "Counts.begun" = true)
    (k105 : PySem.W.keepIn K (.ref f105) = true)
    (a106 : PySem.W.findIn K (.ref C) "outs" = some (some (.ref f106)))
    (i106 : PySem.W.isFn K (.ref f106) = true)
    (l106 : K.lookup f106 = some ⟨oc106, od106, .func (PySem.W.fnOf "outs" "Counts.outs" (defArgs sOuts) (defBody sOuts) (defScope sOuts) .none kV106 dc106 pm106 an106 cd106 ct106), sl106⟩)
    (c106 : PySem.W.codeIn K cd106 "Counts.outs" = true)
    (k106 : PySem.W.keepIn K (.ref f106) = true)
    (a107 : PySem.W.findIn K (.ref C) "ins" = some (some (.ref f107)))
    (i107 : PySem.W.isFn K (.ref f107) = true)
    (l107 : K.lookup f107 = some ⟨oc107, od107, .func (PySem.W.fnOf "ins" "Counts.ins" (defArgs sIns) (defBody sIns) (defScope sIns) .none kV107 dc107 pm107 an107 cd107 ct107), sl107⟩)
    (c107 : PySem.W.codeIn K cd107 "Counts.ins" = true)
    (k107 : PySem.W.keepIn K (.ref f107) = true)
    (a108 : PySem.W.findIn K (.ref C) "nexts" = some (some (.ref f108)))
    (i108 : PySem.W.isFn K (.ref f108) = true)
    (l108 : K.lookup f108 = some ⟨oc108, od108, .func (PySem.W.fnOf "nexts" "Counts.nexts" (defArgs sNexts) (defBody sNexts) (defScope sNexts) .none kV108 dc108 pm108 an108 cd108 ct108), sl108⟩)
    (c108 : PySem.W.codeIn K cd108 "Counts.nexts" = true)
    (k108 : PySem.W.keepIn K (.ref f108) = true)
    (a109 : PySem.W.findIn K (.ref C) "__getitem__" = some (some (.ref f109)))
    (i109 : PySem.W.isFn K (.ref f109) = true)
    (n109 : PySem.W.fnIn K f109 = true)
    (l109 : K.lookup f109 = some ⟨oc109, od109, .func (PySem.W.fnOf "__getitem__" "Counts.__getitem__" (defArgs sGetItem) (defBody sGetItem) (defScope sGetItem) .none kV109 dc109 pm109 an109 cd109 ct109), sl109⟩)
    (c109 : PySem.W.codeIn K cd109 "Counts.__getitem__" = true)
    (k109 : PySem.W.keepIn K (.ref f109) = true)
    (a110 : PySem.W.findIn K (.ref C) (PySem.dunder Operator.Sub.info.2) = some (some (.ref f110)))
    (i110 : PySem.W.isFn K (.ref f110) = true)
    (s110 : PySem.W.selfFirst K C = true)
    (l110 : K.lookup f110 = some ⟨oc110, od110, .func (PySem.W.fnOf "__sub__" "Counts.__sub__" (defArgs sSub) (defBody sSub) (defScope sSub) .none kV110 dc110 pm110 an110 cd110 ct110), sl110⟩)
    (c110 : PySem.W.codeIn K cd110 "Counts.__sub__" = true)
    (k110 : PySem.W.keepIn K (.ref f110) = true)
    (pg : PySem.W.plainGet K C Str.empty = true)
    (hd : PySem.W.hasDictIn K C = true)
    (po : PySem.W.plainOver K C = true)
    (sa : PySem.W.findIn K (.ref C) "__setattr__" = some (some (.builtin "object.__setattr__")))
    (mk : PySem.W.makesIn K C = true)
    (kc : PySem.W.keepIn K (.ref C) = true)
    (x0 : PySem.W.findIn K (.ref C) "own_start" = some none)
    (x1 : PySem.W.findIn K (.ref C) "own_table" = some none)
    (x2 : PySem.W.findIn K (.ref C) "own_steps" = some none)
    (x3 : PySem.W.findIn K (.ref C) "own_outs" = some none)
    (x4 : PySem.W.findIn K (.ref C) "own_ins" = some none)
    (y1 : PySem.W.findIn K (.ref C) "__class__" = some (some (.builtin "object.__class__")))
    (y2 : PySem.W.specialIn K (.builtin "object.__class__") "__get__" = some (some (.builtin "getset_descriptor.__get__")))
    (y3 : PySem.W.takesIn K (.builtin "object.__class__") = some true)
    (y4 : PySem.W.mroIn K C (.type "object") = some true)
    (q1 : PySem.W.nsIn K mainGlobals "SURPLUS" = some (some (.str z1 t1)))
    (q2 : PySem.W.nsIn K mainGlobals "APART" = some (some (.str z2 t2)))
    (b0 : PySem.W.nsIn K mainGlobals "isinstance" = some none)
    (b1 : PySem.W.nsIn K mainGlobals "tuple" = some none)
    (b2 : PySem.W.nsIn K mainGlobals "list" = some none)
    (b3 : PySem.W.nsIn K mainGlobals "sorted" = some none)
    (b4 : PySem.W.nsIn K mainGlobals "set" = some none)
    (b5 : PySem.W.nsIn K mainGlobals "zip" = some none)
    (b6 : PySem.W.nsIn K mainGlobals "len" = some none)
    (b7 : PySem.W.nsIn K mainGlobals "int" = some none)
    (b8 : PySem.W.nsIn K mainGlobals "abs" = some none)
    (b9 : PySem.W.nsIn K mainGlobals "range" = some none)
    (b10 : PySem.W.nsIn K mainGlobals "min" = some none)
    (b11 : PySem.W.nsIn K mainGlobals "all" = some none)
    (b12 : PySem.W.nsIn K mainGlobals "enumerate" = some none)
    (b13 : PySem.W.nsIn K mainGlobals "bool" = some none)
    (b14 : PySem.W.nsIn K mainGlobals "str" = some none) :
    ∃ fd : FuncData, (∀ (s : Shared) (v : Value), BindsTo s fd ⟨[v], []⟩ [("_law_script", v)]) ∧ ∀ base : Heap, K.In base → base.Ns mainGlobals mg → FnOk l.prog w K mg base CX0 12 fa fd ["_law_script"] (spLaw K) := by
  have e := hfa.symm.trans (PySem.W.mg_of X G a31)
  cases e
  have B : Bn mg := ⟨PySem.W.mg_none_of X G b0, PySem.W.mg_none_of X G b1, PySem.W.mg_none_of X G b2, PySem.W.mg_none_of X G b3, PySem.W.mg_none_of X G b4, PySem.W.mg_none_of X G b5, PySem.W.mg_none_of X G b6, PySem.W.mg_none_of X G b7, PySem.W.mg_none_of X G b8, PySem.W.mg_none_of X G b9, PySem.W.mg_none_of X G b10, PySem.W.mg_none_of X G b11, PySem.W.mg_none_of X G b12, PySem.W.mg_none_of X G b13, PySem.W.mg_none_of X G b14⟩
  have cl : Cls K C := ⟨pg, hd, po, sa⟩
  have tx : CTx K mg C := ⟨cl, x0, x1, x2, x3, x4, PySem.W.mg_of X G aC⟩
  have ic : C8.InsC K C := ⟨cl, y1, y2, y3, y4, if_pos (beq_self_eq_true _)⟩
  have F0 := fun_mk (st := sTidy) l0 c0 k0
  have b0_ := F0.binds (ps := ["thing"]) fun _ _ _ _ _ _ us hl => match us, hl with | [_], _ => rfl
  have g0_ := PySem.W.mg_of X G a0
  have F1 := fun_mk (st := sSetOf) l1 c1 k1
  have b1_ := F1.binds (ps := ["things"]) fun _ _ _ _ _ _ us hl => match us, hl with | [_], _ => rfl
  have g1_ := PySem.W.mg_of X G a1
  have F2 := fun_mk (st := sStepsOf) l2 c2 k2
  have b2_ := F2.binds (ps := ["journey"]) fun _ _ _ _ _ _ us hl => match us, hl with | [_], _ => rfl
  have g2_ := PySem.W.mg_of X G a2
  have F3 := fun_mk (st := sTableOf) l3 c3 k3
  have b3_ := F3.binds (ps := ["steps"]) fun _ _ _ _ _ _ us hl => match us, hl with | [_], _ => rfl
  have g3_ := PySem.W.mg_of X G a3
  have F4 := fun_mk (st := sSumsOf) l4 c4 k4
  have b4_ := F4.binds (ps := ["steps", "side"]) fun _ _ _ _ _ _ us hl => match us, hl with | [_, _], _ => rfl
  have g4_ := PySem.W.mg_of X G a4
  have F5 := fun_mk (st := sSurplus) l5 c5 k5
  have b5_ := F5.binds (ps := ["counts"]) fun _ _ _ _ _ _ us hl => match us, hl with | [_], _ => rfl
  have g5_ := PySem.W.mg_of X G a5
  have F6 := fun_mk (st := sPieces) l6 c6 k6
  have b6_ := F6.binds (ps := ["counts"]) fun _ _ _ _ _ _ us hl => match us, hl with | [_], _ => rfl
  have g6_ := PySem.W.mg_of X G a6
  have F7 := fun_mk (st := sWhyNone) l7 c7 k7
  have b7_ := F7.binds (ps := ["counts"]) fun _ _ _ _ _ _ us hl => match us, hl with | [_], _ => rfl
  have g7_ := PySem.W.mg_of X G a7
  have F8 := fun_mk (st := sIsHad) l8 c8 k8
  have b8_ := F8.binds (ps := ["counts"]) fun _ _ _ _ _ _ us hl => match us, hl with | [_], _ => rfl
  have g8_ := PySem.W.mg_of X G a8
  have F9 := fun_mk (st := sNeed) l9 c9 k9
  have b9_ := F9.binds (ps := ["counts"]) fun _ _ _ _ _ _ us hl => match us, hl with | [_], _ => rfl
  have g9_ := PySem.W.mg_of X G a9
  have F10 := fun_mk (st := sEndOf) l10 c10 k10
  have b10_ := F10.binds (ps := ["counts"]) fun _ _ _ _ _ _ us hl => match us, hl with | [_], _ => rfl
  have g10_ := PySem.W.mg_of X G a10
  have F11 := fun_mk (st := sTurned) l11 c11 k11
  have b11_ := F11.binds (ps := ["counts"]) fun _ _ _ _ _ _ us hl => match us, hl with | [_], _ => rfl
  have g11_ := PySem.W.mg_of X G a11
  have F12 := fun_mk (st := sGone) l12 c12 k12
  have b12_ := F12.binds (ps := ["counts", "place"]) fun _ _ _ _ _ _ us hl => match us, hl with | [_, _], _ => rfl
  have g12_ := PySem.W.mg_of X G a12
  have F13 := fun_mk (st := sOpenS) l13 c13 k13
  have b13_ := F13.binds (ps := ["counts"]) fun _ _ _ _ _ _ us hl => match us, hl with | [_], _ => rfl
  have g13_ := PySem.W.mg_of X G a13
  have F14 := fun_mk (st := sSureB) l14 c14 k14
  have b14_ := F14.binds (ps := ["counts"]) fun _ _ _ _ _ _ us hl => match us, hl with | [_], _ => rfl
  have g14_ := PySem.W.mg_of X G a14
  have F15 := fun_mk (st := sSureE) l15 c15 k15
  have b15_ := F15.binds (ps := ["counts"]) fun _ _ _ _ _ _ us hl => match us, hl with | [_], _ => rfl
  have g15_ := PySem.W.mg_of X G a15
  have F16 := fun_mk (st := sLBox) l16 c16 k16
  have b16_ := F16.binds (ps := ["_law_script", "_law_k"]) fun _ _ _ _ _ _ us hl => match us, hl with | [_, _], _ => rfl
  have g16_ := PySem.W.mg_of X G a16
  have F17 := fun_mk (st := sLTake) l17 c17 k17
  have b17_ := F17.binds (ps := ["_law_box_here", "_law_below"]) fun _ _ _ _ _ _ us hl => match us, hl with | [_, _], _ => rfl
  have g17_ := PySem.W.mg_of X G a17
  have F18 := fun_mk (st := sLCells) l18 c18 k18
  have b18_ := F18.binds (ps := ["_law_script", "_law_most_so"]) fun _ _ _ _ _ _ us hl => match us, hl with | [_, _], _ => rfl
  have g18_ := PySem.W.mg_of X G a18
  have F19 := fun_mk (st := sLOf) l19 c19 k19
  have b19_ := F19.binds (ps := ["_law_box_here", "_law_some"]) fun _ _ _ _ _ _ us hl => match us, hl with | [_, _], _ => rfl
  have g19_ := PySem.W.mg_of X G a19
  have F20 := fun_mk (st := sLPick) l20 c20 k20
  have b20_ := F20.binds (ps := ["_law_box_here", "_law_pool_so", "_law_many_so"]) fun _ _ _ _ _ _ us hl => match us, hl with | [_, _, _], _ => rfl
  have g20_ := PySem.W.mg_of X G a20
  have F21 := fun_mk (st := sLSame) l21 c21 k21
  have b21_ := F21.binds (ps := ["_law_got", "_law_due"]) fun _ _ _ _ _ _ us hl => match us, hl with | [_, _], _ => rfl
  have g21_ := PySem.W.mg_of X G a21
  have F22 := fun_mk (st := sLTags) l22 c22 k22
  have b22_ := F22.binds (ps := ["_law_box_here", "_law_many_so"]) fun _ _ _ _ _ _ us hl => match us, hl with | [_, _], _ => rfl
  have g22_ := PySem.W.mg_of X G a22
  have F23 := fun_mk (st := sLWalk) l23 c23 k23
  have b23_ := F23.binds (ps := ["_law_box_here", "_law_tags_here", "_law_most_so"]) fun _ _ _ _ _ _ us hl => match us, hl with | [_, _, _], _ => rfl
  have g23_ := PySem.W.mg_of X G a23
  have F24 := fun_mk (st := sLTally) l24 c24 k24
  have b24_ := F24.binds (ps := ["_law_row_so"]) fun _ _ _ _ _ _ us hl => match us, hl with | [_], _ => rfl
  have g24_ := PySem.W.mg_of X G a24
  have F25 := fun_mk (st := sLLess) l25 c25 k25
  have b25_ := F25.binds (ps := ["_law_rows_so", "_law_own"]) fun _ _ _ _ _ _ us hl => match us, hl with | [_, _], _ => rfl
  have g25_ := PySem.W.mg_of X G a25
  have F26 := fun_mk (st := sLAll) l26 c26 k26
  have b26_ := F26.binds (ps := ["_law_first_so", "_law_rows_so"]) fun _ _ _ _ _ _ us hl => match us, hl with | [_, _], _ => rfl
  have g26_ := PySem.W.mg_of X G a26
  have F27 := fun_mk (st := sLShared) l27 c27 k27
  have b27_ := F27.binds (ps := ["_law_all_so"]) fun _ _ _ _ _ _ us hl => match us, hl with | [_], _ => rfl
  have g27_ := PySem.W.mg_of X G a27
  have F28 := fun_mk (st := sLGoes) l28 c28 k28
  have b28_ := F28.binds (ps := ["_law_row_so", "_law_far", "_law_tag"]) fun _ _ _ _ _ _ us hl => match us, hl with | [_, _, _], _ => rfl
  have g28_ := PySem.W.mg_of X G a28
  have F29 := fun_mk (st := sLHand) l29 c29 k29
  have g29_ := PySem.W.mg_of X G a29
  have F30 := fun_mk (st := sLRight) l30 c30 k30
  have b30_ := F30.binds (ps := ["_law_box_here"]) fun _ _ _ _ _ _ us hl => match us, hl with | [_], _ => rfl
  have g30_ := PySem.W.mg_of X G a30
  have F31 := fun_mk (st := sLLaw) l31 c31 k31
  have hD : FunD K "__init__" "Counts.__init__" (defArgs sInit) (defBody sInit) (defScope sInit) [V.ref dE] [] f100 _ := ⟨⟨_, _, _, _, _, _, _, _, _, _, rfl, l100, c100, .inr ⟨by simp, dT, _, [.ref dE], _, rfl, lT, rfl, .cons rfl .nil⟩, .inl rfl⟩, k100⟩
  have bI0 := ini_binds hD
  have bI1 := ini_binds1 hD
  have F101 := fun_mk (st := sStart) l101 c101 k101
  have b101_ := F101.binds (ps := ["self"]) fun _ _ _ _ _ _ us hl => match us, hl with | [_], _ => rfl
  have F102 := fun_mk (st := sSteps) l102 c102 k102
  have b102_ := F102.binds (ps := ["self"]) fun _ _ _ _ _ _ us hl => match us, hl with | [_], _ => rfl
  have F103 := fun_mk (st := sPlaces) l103 c103 k103
  have b103_ := F103.binds (ps := ["self"]) fun _ _ _ _ _ _ us hl => match us, hl with | [_], _ => rfl
  have F104 := fun_mk (st := sOf) l104 c104 k104
  have b104_ := F104.binds (ps := ["journey"]) fun _ _ _ _ _ _ us hl => match us, hl with | [_], _ => rfl
  have F105 := fun_mk (st := sBegun) l105 c105 k105
  have b105_ := F105.binds (ps := ["self", "place"]) fun _ _ _ _ _ _ us hl => match us, hl with | [_, _], _ => rfl
  have F106 := fun_mk (st := sOuts) l106 c106 k106
  have b106_ := F106.binds (ps := ["self", "place"]) fun _ _ _ _ _ _ us hl => match us, hl with | [_, _], _ => rfl
  have F107 := fun_mk (st := sIns) l107 c107 k107
  have b107_ := F107.binds (ps := ["self", "place"]) fun _ _ _ _ _ _ us hl => match us, hl with | [_, _], _ => rfl
  have F108 := fun_mk (st := sNexts) l108 c108 k108
  have b108_ := F108.binds (ps := ["self", "place"]) fun _ _ _ _ _ _ us hl => match us, hl with | [_, _], _ => rfl
  have F109 := fun_mk (st := sGetItem) l109 c109 k109
  have b109_ := F109.binds (ps := ["self", "step"]) fun _ _ _ _ _ _ us hl => match us, hl with | [_, _], _ => rfl
  have F110 := fun_mk (st := sSub) l110 c110 k110
  have b110_ := F110.binds (ps := ["self", "other"]) fun _ _ _ _ _ _ us hl => match us, hl with | [_, _], _ => rfl
  have eE : ∀ H, SqT K H dE [] := fun H => .inr ⟨_, _, _, lE, rfl, rfl, Nat.zero_le _, .nil⟩
  refine ⟨PySem.W.fnOf "law" "law" (defArgs sLLaw) (defBody sLLaw) (defScope sLLaw) .none kV31 dc31 pm31 an31 cd31 ct31, fun s v => .of_eq rfl, fun base _ _ => ?_⟩
  have OI : FnOk l.prog w K mg base CX0 4 f100 _ ["self", "start", "steps"] (spInit K C) := ok_init hD B tx F0 b0_ g0_ F3 b3_ g3_ F4 b4_ g4_
  have GI : Gi l.prog w K mg base C f100 _ := ⟨OI, ⟨mk, a100, i100, kc⟩, tx, bI0⟩
  have Gset : Gd l.prog w K mg base _ "set_of" _ _ f1 _ := ⟨ok_setOf (k := 0) F1 B, g1_, k1, b1_⟩
  have Gsteps : Gd l.prog w K mg base _ "steps_of" _ _ f2 _ := ⟨ok_stepsOf F2 B F0 b0_ g0_, g2_, k2, b2_⟩
  have PT : Gp l.prog w K mg base _ C "start" _ _ p101 f101 _ := ⟨ok_start (k := 0) F101 tx, cl, ⟨a101, g101, t101, ⟨_, e101⟩⟩, b101_⟩
  have PS : Gp l.prog w K mg base _ C "steps" _ _ p102 f102 _ := ⟨ok_steps (k := 0) F102 tx, cl, ⟨a102, g102, t102, ⟨_, e102⟩⟩, b102_⟩
  have PP : Gp l.prog w K mg base _ C "places" _ _ p103 f103 _ := ⟨ok_places F103 tx Gset, cl, ⟨a103, g103, t103, ⟨_, e103⟩⟩, b103_⟩
  have MO : Gm l.prog w K mg base _ C "outs" _ _ f106 _ := ⟨ok_outs (k := 0) F106 tx, cl, ⟨a106, i106, k106⟩, b106_⟩
  have MI : Gm l.prog w K mg base _ C "ins" _ _ f107 _ := ⟨ok_ins (k := 0) F107 tx, cl, ⟨a107, i107, k107⟩, b107_⟩
  have MX : Gx l.prog w K mg base 1 C f109 _ := ⟨ok_item (k := 0) F109 tx B, a109, n109, i109, b109_⟩
  have MN : Gm l.prog w K mg base _ C "nexts" _ _ f108 _ := ⟨ok_nexts F108 tx Gset, cl, ⟨a108, i108, k108⟩, b108_⟩
  have SO : SMet K C (.type "type") "of" p104 f104 := ⟨m104, g104, a104, ⟨_, e104⟩, k104⟩
  have OO : FnOk l.prog w K mg base CX0 6 f104 _ ["journey"] (spOf K C) := ok_of F104 GI Gsteps
  have GO : Go l.prog w K mg base C (.type "type") p104 f104 _ := ⟨SO, OO, b104_, tx.mgC⟩
  have MB : Gm l.prog w K mg base _ C "begun" _ _ f105 _ := ⟨ok_begun F105 GI PS, cl, ⟨a105, i105, k105⟩, b105_⟩
  have MS : Gs l.prog w K mg base 6 C f110 _ := ⟨ok_sub F110 GI PS MX ic B, a110, i110, s110, b110_⟩
  have Gsur : Gd l.prog w K mg base _ "surplus" _ _ f5 _ := ⟨ok_surplus F5 B PP MO MI, g5_, k5, b5_⟩
  have Gpie : Gd l.prog w K mg base _ "pieces" _ _ f6 _ := ⟨ok_pieces F6 B PP Gset PS, g6_, k6, b6_⟩
  have Gwhy : Gd l.prog w K mg base _ "why_none" _ _ f7 _ := ⟨ok_why F7 B (PySem.W.mg_of X G q1) (PySem.W.mg_of X G q2) Gsur Gpie PT PP, g7_, k7, b7_⟩
  have Ghad : Gd l.prog w K mg base _ "is_had" _ _ f8 _ := ⟨ok_isHad F8 Gwhy, g8_, k8, b8_⟩
  have Gneed : Gd l.prog w K mg base _ "need" _ _ f9 _ := ⟨ok_need F9 Ghad, g9_, k9, b9_⟩
  have Gend : Gd l.prog w K mg base _ "end_of" _ _ f10 _ := ⟨ok_endOf F10 B Gneed Gsur PT, g10_, k10, b10_⟩
  have Gturn : Gd l.prog w K mg base _ "turned_counts" _ _ f11 _ := ⟨ok_turned F11 GI Gend PS, g11_, k11, b11_⟩
  have Ggone : Gd l.prog w K mg base _ "gone" _ _ f12 _ := ⟨ok_gone F12 GI MX MS MB PT, g12_, k12, b12_⟩
  have Gopen : Gd l.prog w K mg base _ "open_steps" _ _ f13 _ := ⟨ok_open F13 MN Ggone Ghad PT, g13_, k13, b13_⟩
  have GsB : Gd l.prog w K mg base _ "sure_beginning" _ _ f14 _ := ⟨ok_sureB F14 B Gneed Gopen Ggone PT, g14_, k14, b14_⟩
  have GsE : Gd l.prog w K mg base _ "sure_end" _ _ f15 _ := ⟨ok_sureE F15 GsB Gturn, g15_, k15, b15_⟩
  have Gbox : Gd l.prog w K mg base _ "_law_box" _ _ f16 _ := ⟨ok_box (k := 0) F16 B, g16_, k16, b16_⟩
  have Gtake : Gd l.prog w K mg base _ "_law_take" _ _ f17 _ := ⟨ok_take (k := 0) F17 B, g17_, k17, b17_⟩
  have Gcells : Gd l.prog w K mg base _ "_law_cells" _ _ f18 _ := ⟨ok_cells (k := 0) F18 B, g18_, k18, b18_⟩
  have Glof : Gd l.prog w K mg base _ "_law_of" _ _ f19 _ := ⟨ok_lof F19 B Gtake, g19_, k19, b19_⟩
  have Gpick : Gd l.prog w K mg base _ "_law_pick" _ _ f20 _ := ⟨ok_pick F20 B Gtake, g20_, k20, b20_⟩
  have Gsame2 : Gd l.prog w K mg base _ "_law_same" _ _ f21 _ := ⟨ok_same F21 B b21_ g21_ 2, g21_, k21, b21_⟩
  have Gsame1 : Gd l.prog w K mg base _ "_law_same" _ _ f21 _ := ⟨ok_same F21 B b21_ g21_ 1, g21_, k21, b21_⟩
  have Gtags : Gd l.prog w K mg base _ "_law_tags" _ _ f22 _ := ⟨ok_tags F22 Gtake Gpick, g22_, k22, b22_⟩
  have Gwalk : Gd l.prog w K mg base _ "_law_walk" _ _ f23 _ := ⟨ok_walk F23 B Gtake Glof, g23_, k23, b23_⟩
  have Gtally : Gd l.prog w K mg base _ "_law_tally" _ _ f24 _ := ⟨ok_tally (k := 0) F24 B, g24_, k24, b24_⟩
  have Gless : Gd l.prog w K mg base _ "_law_less" _ _ f25 _ := ⟨ok_less (k := 0) F25 B, g25_, k25, b25_⟩
  have Gall : Gd l.prog w K mg base _ "_law_all" _ _ f26 _ := ⟨ok_all F26 B Gless, g26_, k26, b26_⟩
  have Gsh : Gd l.prog w K mg base _ "_law_shared" _ _ f27 _ := ⟨ok_shared (k := 0) F27 B, g27_, k27, b27_⟩
  have Ggoes : Gd l.prog w K mg base _ "_law_goes_on" _ _ f28 _ := ⟨ok_goes (k := 0) F28 B, g28_, k28, b28_⟩
  have b29_ := F29.binds (ps := []) fun _ _ _ _ _ _ us hl => match us, hl with | [], _ => rfl
  have kbB := kwB F14
  have kbE := kwE F15
  have Ghand : Gd l.prog w K mg base _ "_law_by_hand_right" _ _ f29 _ := ⟨ok_hand F29 B GI GO GsB GsE Gsame2 bI1 eE kbB kbE, g29_, k29, b29_⟩
  have Gright : Gd l.prog w K mg base _ "_law_right" _ _ f30 _ := ⟨ok_right F30 B GO GsB GsE Gsame2 Gsame1 Gtake Gtags Gwalk Gall Gtally Gsh Ggoes, g30_, k30, b30_⟩
  exact ok_law F31 B Gcells Ghand Gbox Gright
theorem walk {l : PySem.W.OpenLaw} {q : Program} {loose : List Str} {XP : (Str → Option Value) → Heap → Prop} {YP : World → Heap → Prop} {d : DefRec} {K : Params → PySem.W.Frag} (hn : l.most = some 63) (hdf : d.params.defaults = [])
    (hY : ∀ (w : World) (h : Heap), YP w h → (K w.params).In h)
    (F : ∀ (w : World) (mg : Str → Option Value) (fa : Addr) (h : Heap), (K w.params).In h → h.Ns mainGlobals mg → mg d.name = some (.ref fa) →
      ∃ fd : FuncData, (∀ (s : Shared) (u : Value), BindsTo s fd ⟨[u], []⟩ [("_law_script", u)]) ∧ ∀ base : Heap, (K w.params).In base → base.Ns mainGlobals mg → FnOk l.prog w (K w.params) mg base CX0 12 fa fd ["_law_script"] (spLaw (K w.params))) :
    PySem.W.WalkO q loose XP YP l.row.toRowW d [] (fun f vs => PySem.call f vs) :=
  L2.walk_of (n := 63) (k := 12) (x := "_law_script") (CX := fun _ => CX0) (sp := fun w => spLaw (K w.params)) hn (by decide) hdf ⟨rfl, by decide, by decide⟩ hY F (fun _ _ a ns hl _ hS => ⟨a, ns, rfl, hS, hl, fun _ => rfl⟩) fun _ _ _ _ _ z => z
end K76
open PySem PySem.W PyProof.Rows
set_option maxRecDepth 100000 in
set_option maxHeartbeats 0 in
theorem PySem.Challenge.cw_countedsteps_k76_whole_sure_beginnings_holds : PySem.Challenge.rw_countedsteps_k76_whole_sure_beginnings.Holds := by
  w_on; o_law; k_head; (case hw => w_witness2)
  k_fill
  refine K76.walk (l := PySem.Challenge.rw_countedsteps_k76_whole_sure_beginnings) rfl rfl (fun w h Y => PySem.W.kIn_of Y) ?F
  case F =>
    intro w mg fa h KX G hmg
    refine' K76.all_mk KX G hmg ?aC ?a0 ?l0 ?c0 ?k0 ?a1 ?l1 ?c1 ?k1 ?a2 ?l2 ?c2 ?k2 ?a3 ?l3 ?c3 ?k3 ?a4 ?l4 ?c4 ?k4 ?a5 ?l5 ?c5 ?k5 ?a6 ?l6 ?c6 ?k6 ?a7 ?l7 ?c7 ?k7 ?a8 ?l8 ?c8 ?k8 ?a9 ?l9 ?c9 ?k9 ?a10 ?l10 ?c10 ?k10 ?a11 ?l11 ?c11 ?k11 ?a12 ?l12 ?c12 ?k12 ?a13 ?l13 ?c13 ?k13 ?a14 ?l14 ?c14 ?k14 ?a15 ?l15 ?c15 ?k15 ?a16 ?l16 ?c16 ?k16 ?a17 ?l17 ?c17 ?k17 ?a18 ?l18 ?c18 ?k18 ?a19 ?l19 ?c19 ?k19 ?a20 ?l20 ?c20 ?k20 ?a21 ?l21 ?c21 ?k21 ?a22 ?l22 ?c22 ?k22 ?a23 ?l23 ?c23 ?k23 ?a24 ?l24 ?c24 ?k24 ?a25 ?l25 ?c25 ?k25 ?a26 ?l26 ?c26 ?k26 ?a27 ?l27 ?c27 ?k27 ?a28 ?l28 ?c28 ?k28 ?a29 ?l29 ?c29 ?k29 ?a30 ?l30 ?c30 ?k30 ?a31 ?l31 ?c31 ?k31 ?a100 ?i100 ?l100 ?c100 ?k100 ?lT ?lE ?a101 ?g101 ?t101 ?e101 ?l101 ?c101 ?k101 ?a102 ?g102 ?t102 ?e102 ?l102 ?c102 ?k102 ?a103 ?g103 ?t103 ?e103 ?l103 ?c103 ?k103 ?m104 ?g104 ?a104 ?e104 ?l104 ?c104 ?k104 ?a105 ?i105 ?l105 ?c105 ?k105 ?a106 ?i106 ?l106 ?c106 ?k106 ?a107 ?i107 ?l107 ?c107 ?k107 ?a108 ?i108 ?l108 ?c108 ?k108 ?a109 ?i109 ?n109 ?l109 ?c109 ?k109 ?a110 ?i110 ?s110 ?l110 ?c110 ?k110 ?pg ?hd ?po ?sa ?mk ?kc ?x0 ?x1 ?x2 ?x3 ?x4 ?y1 ?y2 ?y3 ?y4 ?q1 ?q2 ?b0 ?b1 ?b2 ?b3 ?b4 ?b5 ?b6 ?b7 ?b8 ?b9 ?b10 ?b11 ?b12 ?b13 ?b14
    (case aC => k_is)
    (case a0 => k_is)
    (case l0 => k_is)
    (case c0 => k_is)
    (case k0 => k_is)
    (case a1 => k_is)
    (case l1 => k_is)
    (case c1 => k_is)
    (case k1 => k_is)
    (case a2 => k_is)
    (case l2 => k_is)
    (case c2 => k_is)
    (case k2 => k_is)
    (case a3 => k_is)
    (case l3 => k_is)
    (case c3 => k_is)
    (case k3 => k_is)
    (case a4 => k_is)
    (case l4 => k_is)
    (case c4 => k_is)
    (case k4 => k_is)
    (case a5 => k_is)
    (case l5 => k_is)
    (case c5 => k_is)
    (case k5 => k_is)
    (case a6 => k_is)
    (case l6 => k_is)
    (case c6 => k_is)
    (case k6 => k_is)
    (case a7 => k_is)
    (case l7 => k_is)
    (case c7 => k_is)
    (case k7 => k_is)
    (case a8 => k_is)
    (case l8 => k_is)
    (case c8 => k_is)
    (case k8 => k_is)
    (case a9 => k_is)
    (case l9 => k_is)
    (case c9 => k_is)
    (case k9 => k_is)
    (case a10 => k_is)
    (case l10 => k_is)
    (case c10 => k_is)
    (case k10 => k_is)
    (case a11 => k_is)
    (case l11 => k_is)
    (case c11 => k_is)
    (case k11 => k_is)
    (case a12 => k_is)
    (case l12 => k_is)
    (case c12 => k_is)
    (case k12 => k_is)
    (case a13 => k_is)
    (case l13 => k_is)
    (case c13 => k_is)
    (case k13 => k_is)
    (case a14 => k_is)
    (case l14 => k_is)
    (case c14 => k_is)
    (case k14 => k_is)
    (case a15 => k_is)
    (case l15 => k_is)
    (case c15 => k_is)
    (case k15 => k_is)
    (case a16 => k_is)
    (case l16 => k_is)
    (case c16 => k_is)
    (case k16 => k_is)
    (case a17 => k_is)
    (case l17 => k_is)
    (case c17 => k_is)
    (case k17 => k_is)
    (case a18 => k_is)
    (case l18 => k_is)
    (case c18 => k_is)
    (case k18 => k_is)
    (case a19 => k_is)
    (case l19 => k_is)
    (case c19 => k_is)
    (case k19 => k_is)
    (case a20 => k_is)
    (case l20 => k_is)
    (case c20 => k_is)
    (case k20 => k_is)
    (case a21 => k_is)
    (case l21 => k_is)
    (case c21 => k_is)
    (case k21 => k_is)
    (case a22 => k_is)
    (case l22 => k_is)
    (case c22 => k_is)
    (case k22 => k_is)
    (case a23 => k_is)
    (case l23 => k_is)
    (case c23 => k_is)
    (case k23 => k_is)
    (case a24 => k_is)
    (case l24 => k_is)
    (case c24 => k_is)
    (case k24 => k_is)
    (case a25 => k_is)
    (case l25 => k_is)
    (case c25 => k_is)
    (case k25 => k_is)
    (case a26 => k_is)
    (case l26 => k_is)
    (case c26 => k_is)
    (case k26 => k_is)
    (case a27 => k_is)
    (case l27 => k_is)
    (case c27 => k_is)
    (case k27 => k_is)
    (case a28 => k_is)
    (case l28 => k_is)
    (case c28 => k_is)
    (case k28 => k_is)
    (case a29 => k_is)
    (case l29 => k_is)
    (case c29 => k_is)
    (case k29 => k_is)
    (case a30 => k_is)
    (case l30 => k_is)
    (case c30 => k_is)
    (case k30 => k_is)
    (case a31 => k_is)
    (case l31 => k_is)
    (case c31 => k_is)
    (case k31 => k_is)
    (case a100 => k_is)
    (case i100 => k_is)
    (case l100 => k_is)
    (case c100 => k_is)
    (case k100 => k_is)
    (case lT => k_is)
    (case lE => k_is)
    (case a101 => k_is)
    (case g101 => k_is)
    (case t101 => k_is)
    (case e101 => k_is)
    (case l101 => k_is)
    (case c101 => k_is)
    (case k101 => k_is)
    (case a102 => k_is)
    (case g102 => k_is)
    (case t102 => k_is)
    (case e102 => k_is)
    (case l102 => k_is)
    (case c102 => k_is)
    (case k102 => k_is)
    (case a103 => k_is)
    (case g103 => k_is)
    (case t103 => k_is)
    (case e103 => k_is)
    (case l103 => k_is)
    (case c103 => k_is)
    (case k103 => k_is)
    (case m104 => k_is)
    (case g104 => k_is)
    (case a104 => k_is)
    (case e104 => k_is)
    (case l104 => k_is)
    (case c104 => k_is)
    (case k104 => k_is)
    (case a105 => k_is)
    (case i105 => k_is)
    (case l105 => k_is)
    (case c105 => k_is)
    (case k105 => k_is)
    (case a106 => k_is)
    (case i106 => k_is)
    (case l106 => k_is)
    (case c106 => k_is)
    (case k106 => k_is)
    (case a107 => k_is)
    (case i107 => k_is)
    (case l107 => k_is)
    (case c107 => k_is)
    (case k107 => k_is)
    (case a108 => k_is)
    (case i108 => k_is)
    (case l108 => k_is)
    (case c108 => k_is)
    (case k108 => k_is)
    (case a109 => k_is)
    (case i109 => k_is)
    (case n109 => k_is)
    (case l109 => k_is)
    (case c109 => k_is)
    (case k109 => k_is)
    (case a110 => k_is)
    (case i110 => k_is)
    (case s110 => k_is)
    (case l110 => k_is)
    (case c110 => k_is)
    (case k110 => k_is)
    (case pg => k_is)
    (case hd => k_is)
    (case po => k_is)
    (case sa => k_is)
    (case mk => k_is)
    (case kc => k_is)
    (case x0 => k_is)
    (case x1 => k_is)
    (case x2 => k_is)
    (case x3 => k_is)
    (case x4 => k_is)
    (case y1 => k_is)
    (case y2 => k_is)
    (case y3 => k_is)
    (case y4 => k_is)
    (case q1 => k_is)
    (case q2 => k_is)
    (case b0 => k_is)
    (case b1 => k_is)
    (case b2 => k_is)
    (case b3 => k_is)
    (case b4 => k_is)
    (case b5 => k_is)
    (case b6 => k_is)
    (case b7 => k_is)
    (case b8 => k_is)
    (case b9 => k_is)
    (case b10 => k_is)
    (case b11 => k_is)
    (case b12 => k_is)
    (case b13 => k_is)
    (case b14 => k_is)
