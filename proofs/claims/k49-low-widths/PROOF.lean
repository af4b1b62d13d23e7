import PyProof.Rows.All
import Wide.All
import OpenK.AllK
import Wide.FinOn
import HandS.ForMost
import HandS.Evl
import HandS.More
import HandS.Conv
import HandS.SortInts
import HandS.IsInst
import HandS.Deep
import HandS.Zip
import HandS.SetFor
import HandS.Rev
import PySem.Challenge.RW_bagwood_k49_whole_low_widths
set_option Elab.async false
set_option linter.all false
set_option maxRecDepth 100000
set_option maxHeartbeats 4000000
/-! ### M1 -/
namespace Bw

abbrev Adj := Nat → Nat → Bool

def elim (A : Adj) (v : Nat) : Adj := fun x y => x != y && x != v && y != v && (A x y || (A x v && A v y))
def rem (S : List Nat) (v : Nat) : List Nat := S.filter (fun x => x != v)
def deg (A : Adj) (S : List Nat) (v : Nat) : Nat := S.countP (A v)
def Sym (A : Adj) : Prop := ∀ x y, A x y = A y x
def Irr (A : Adj) : Prop := ∀ x, A x x = false

inductive El (w : Nat) : Adj → List Nat → Prop
  | nil (A : Adj) : El w A []
  | step {A : Adj} {S : List Nat} (v : Nat) : v ∈ S → deg A S v ≤ w → El w (elim A v) (rem S v) → El w A S

theorem mem_rem {S : List Nat} {v x : Nat} : x ∈ rem S v ↔ x ∈ S ∧ x ≠ v := by
  simp [rem]

theorem nodup_rem {S : List Nat} (v : Nat) (h : S.Nodup) : (rem S v).Nodup :=
  List.Nodup.sublist List.filter_sublist h

theorem rem_comm (S : List Nat) (u v : Nat) : rem (rem S u) v = rem (rem S v) u := by
  unfold rem
  rw [List.filter_filter, List.filter_filter]
  congr 1
  funext x
  exact Bool.and_comm _ _

theorem elim_sym {A : Adj} (h : Sym A) (v : Nat) : Sym (elim A v) := by
  intro x y
  unfold elim
  rw [h x y, h x v, h v y]
  have e1 : (x != y) = (y != x) := by
    rw [Bool.eq_iff_iff, bne_iff_ne, bne_iff_ne]
    exact ne_comm
  rw [e1]
  cases (y != x) <;> cases (x != v) <;> cases (y != v) <;> cases A y x <;> cases A v x <;> cases A y v <;> rfl

theorem elim_irr (A : Adj) (v : Nat) : Irr (elim A v) := by
  intro x
  simp [elim]

theorem elim_comm {A : Adj} (hs : Sym A) {u v : Nat} (hne : u ≠ v) : elim (elim A u) v = elim (elim A v) u := by
  funext x y
  unfold elim
  rw [hs u v]
  by_cases h1 : x = y
  · simp [h1]
  by_cases h2 : x = u
  · simp [h2]
  by_cases h3 : x = v
  · simp [h3]
  by_cases h4 : y = u
  · simp [h4]
  by_cases h5 : y = v
  · simp [h5]
  simp only [bne_iff_ne.2 h1, bne_iff_ne.2 h2, bne_iff_ne.2 h3, bne_iff_ne.2 h4, bne_iff_ne.2 h5, bne_iff_ne.2 hne, bne_iff_ne.2 hne.symm, bne_iff_ne.2 (Ne.symm h4), bne_iff_ne.2 (Ne.symm h5), Bool.true_and]
  cases A x y <;> cases A x u <;> cases A u y <;> cases A x v <;> cases A v y <;> cases A v u <;> rfl

theorem deg_congr {A B : Adj} {S : List Nat} {v : Nat} (hv : v ∈ S) (h : ∀ x ∈ S, ∀ y ∈ S, A x y = B x y) : deg A S v = deg B S v := by
  unfold deg
  exact List.countP_congr fun y hy => by rw [h v hv y hy]

theorem El.congr {w : Nat} {A : Adj} {S : List Nat} (h : El w A S) : ∀ {B : Adj}, (∀ x ∈ S, ∀ y ∈ S, A x y = B x y) → El w B S := by
  induction h with
  | nil A => intro B _; exact .nil B
  | @step A S v hv hd _ ih =>
    intro B e
    refine .step v hv ?_ (ih fun x hx y hy => ?_)
    · rw [← deg_congr hv e]; exact hd
    · rw [mem_rem] at hx hy
      unfold elim
      rw [e x hx.1 y hy.1, e x hx.1 v hv, e v hv y hy.1]

theorem countP_rem {p : Nat → Bool} {S : List Nat} {u : Nat} (hn : S.Nodup) (hu : u ∈ S) (hp : p u = true) :
    S.countP p = (rem S u).countP p + 1 := by
  induction S with
  | nil => cases hu
  | cons a r ih =>
    rw [List.nodup_cons] at hn
    by_cases ha : a = u
    · subst ha
      have e : rem (a :: r) a = r := by
        unfold rem
        rw [List.filter_cons_of_neg (by simp)]
        rw [List.filter_eq_self]
        intro x hx
        simp only [bne_iff_ne]
        exact fun e => hn.1 (e ▸ hx)
      rw [e, List.countP_cons_of_pos hp]
    · have hr : u ∈ r := by
        cases hu with
        | head => exact absurd rfl ha
        | tail _ h => exact h
      have e : rem (a :: r) u = a :: rem r u := by
        unfold rem
        rw [List.filter_cons_of_pos (by simpa using ha)]
      rw [e, List.countP_cons, List.countP_cons, ih hn.2 hr]
      omega

theorem countP_le_of_imp {p q : Nat → Bool} {S : List Nat} (h : ∀ x ∈ S, p x = true → q x = true) : S.countP p ≤ S.countP q :=
  List.countP_mono_left h

theorem countP_rem_le (p : Nat → Bool) (S : List Nat) (u : Nat) : (rem S u).countP p ≤ S.countP p :=
  List.Sublist.countP_le List.filter_sublist

theorem countP_or_le (p q : Nat → Bool) (S : List Nat) : S.countP (fun x => p x || q x) ≤ S.countP p + S.countP q := by
  induction S with
  | nil => simp
  | cons a r ih =>
    rw [List.countP_cons, List.countP_cons, List.countP_cons]
    cases p a <;> cases q a <;> simp <;> omega

theorem deg_elim_le {A : Adj} {S : List Nat} {u v w : Nat} (hs : Sym A) (hn : S.Nodup) (hu : u ∈ S) (hv : v ∈ S) (hne : u ≠ v)
    (du : deg A S u ≤ w) (dv : deg A S v ≤ w) (hw : w ≤ 2) : deg (elim A u) (rem S u) v ≤ w := by
  unfold deg at *
  cases huv : A u v with
  | false =>
    have hvu : A v u = false := by rw [hs]; exact huv
    refine Nat.le_trans (Nat.le_trans (countP_le_of_imp (q := A v) fun x _ hx => ?_) (countP_rem_le _ _ _)) dv
    unfold elim at hx
    rw [hvu] at hx
    simp at hx
    exact hx.2
  | true =>
    have hvu : A v u = true := by rw [hs]; exact huv
    have c1 := countP_rem hn hu hvu
    have c2 := countP_rem hn hv huv
    have b : (rem S u).countP (elim A u v) ≤ (rem S u).countP (fun x => A v x || (x != v && A u x)) := by
      refine countP_le_of_imp fun x _ hx => ?_
      unfold elim at hx
      simp at hx
      simp
      rcases hx with ⟨⟨⟨h1, _⟩, _⟩, h3⟩
      rcases h3 with h3 | h3
      · exact .inl h3
      · exact .inr ⟨fun e => h1 e.symm, h3.2⟩
    have b2 := countP_or_le (A v) (fun x => x != v && A u x) (rem S u)
    have b3 : (rem S u).countP (fun x => x != v && A u x) ≤ (rem S v).countP (A u) := by
      refine Nat.le_trans (countP_rem_le _ _ _) ?_
      unfold rem
      rw [List.countP_filter]
      refine countP_le_of_imp fun x _ hx => ?_
      simp at hx ⊢
      exact ⟨hx.2, hx.1⟩
    omega

/-- Any place of degree at most w may be taken out first. -/
theorem El.any {w : Nat} (hw : w ≤ 2) {A : Adj} {S : List Nat} (h : El w A S) : Sym A → S.Nodup → ∀ {v : Nat}, v ∈ S → deg A S v ≤ w → El w (elim A v) (rem S v) := by
  induction h with
  | nil A => intro _ _ v hv; cases hv
  | @step A S u hu du hE ih =>
    intro hs hn v hv dv
    by_cases e : u = v
    · subst e; exact hE
    · have d1 := deg_elim_le hs hn hu hv e du dv hw
      have d2 := deg_elim_le hs hn hv hu (Ne.symm e) dv du hw
      have k := ih (elim_sym hs u) (nodup_rem u hn) (mem_rem.2 ⟨hv, Ne.symm e⟩) d1
      rw [elim_comm hs e, rem_comm] at k
      exact .step u (mem_rem.2 ⟨hu, e⟩) d2 k

theorem El.iff {w : Nat} (hw : w ≤ 2) {A : Adj} {S : List Nat} (hs : Sym A) (hn : S.Nodup) {v : Nat} (hv : v ∈ S) (dv : deg A S v ≤ w) :
    El w A S ↔ El w (elim A v) (rem S v) :=
  ⟨fun h => h.any hw hs hn hv dv, fun h => .step v hv dv h⟩

theorem El.stuck {w : Nat} {A : Adj} {S : List Nat} (h : El w A S) (hd : ∀ x ∈ S, w < deg A S x) : S = [] := by
  cases h with
  | nil => rfl
  | step v hv dv _ => exact absurd dv (Nat.not_le.2 (hd v hv))

end Bw
/-! ### M2 -/
namespace Bw

theorem countP_rem_not {p : Nat → Bool} {S : List Nat} {u : Nat} (hp : p u = false) : (rem S u).countP p = S.countP p := by
  unfold rem
  rw [List.countP_filter]
  refine List.countP_congr fun x _ => ?_
  simp only [Bool.and_eq_true, bne_iff_ne]
  exact ⟨fun h => h.1, fun h => ⟨h, fun e => by rw [e, hp] at h; cases h⟩⟩

theorem length_rem {S : List Nat} {u : Nat} (hn : S.Nodup) (hu : u ∈ S) : S.length = (rem S u).length + 1 := by
  have := countP_rem (p := fun _ => true) hn hu rfl
  simpa using this

theorem countP_le_length' (p : Nat → Bool) (S : List Nat) : S.countP p ≤ S.length := List.countP_le_length

theorem two_apart {A : Adj} {S : List Nat} (h : El 2 A S) : Sym A → Irr A → S.Nodup → 4 ≤ S.length →
    ∃ p q, p ∈ S ∧ q ∈ S ∧ p ≠ q ∧ A p q = false ∧ deg A S p ≤ 2 ∧ deg A S q ≤ 2 := by
  induction h with
  | nil A => intro _ _ _ h; simp at h
  | @step A S v hv dv hE ih =>
    intro hs hi hn hl
    have el := length_rem hn hv
    by_cases h4 : 4 ≤ (rem S v).length
    · obtain ⟨p, q, hp, hq, hne, hA, dp, dq⟩ := ih (elim_sym hs v) (elim_irr A v) (nodup_rem v hn) h4
      rw [mem_rem] at hp hq
      have key : ∀ p, p ∈ S → p ≠ v → A p v = false → deg (elim A v) (rem S v) p ≤ 2 → deg A S p ≤ 2 := by
        intro p _ hpv hA d
        unfold deg at *
        rw [← countP_rem_not (u := v) hA]
        refine Nat.le_trans (countP_le_of_imp fun y hy hy2 => ?_) d
        rw [mem_rem] at hy
        unfold elim
        have : p ≠ y := fun e => by rw [← e, hi] at hy2; cases hy2
        simp [hpv, hy.2, this, hy2]
      have hsplit : A p v = false ∨ A v q = false := by
        unfold elim at hA
        cases h1 : A p v with
        | false => exact .inl rfl
        | true =>
          refine .inr ?_
          simp [hne, hp.2, hq.2, h1] at hA
          exact hA.2
      rcases hsplit with h1 | h1
      · exact ⟨p, v, hp.1, hv, hp.2, h1, key p hp.1 hp.2 h1 dp, dv⟩
      · rw [hs] at h1
        exact ⟨q, v, hq.1, hv, hq.2, h1, key q hq.1 hq.2 h1 dq, dv⟩
    · have h3 : (rem S v).length = 3 := by omega
      have hex : ∃ c ∈ rem S v, A v c = false := by
        refine Classical.byContradiction fun hc => ?_
        have hall : ∀ c ∈ rem S v, A v c = true := fun c hc' => by
          cases hA : A v c with
          | true => rfl
          | false => exact absurd ⟨c, hc', hA⟩ hc
        have e : (rem S v).countP (A v) = (rem S v).length := List.countP_eq_length.2 hall
        have e2 := countP_rem_le (A v) S v
        unfold deg at dv
        omega
      obtain ⟨c, hc, hA⟩ := hex
      have hc' := mem_rem.1 hc
      refine ⟨v, c, hv, hc'.1, Ne.symm hc'.2, hA, dv, ?_⟩
      unfold deg
      rw [hs] at hA
      rw [← countP_rem_not (u := v) hA, ← countP_rem_not (u := c) (hi c)]
      have e1 := length_rem (nodup_rem v hn) hc
      have e2 := countP_le_length' (A c) (rem (rem S v) c)
      omega

def contr (A : Adj) (a b : Nat) : Adj := fun x y => x != y && x != b && y != b && (A x y || (x == a && A b y) || (y == a && A x b))

theorem contr_sym {A : Adj} (h : Sym A) (a b : Nat) : Sym (contr A a b) := by
  intro x y
  unfold contr
  have e1 : (x != y) = (y != x) := by
    rw [Bool.eq_iff_iff, bne_iff_ne, bne_iff_ne]
    exact ne_comm
  rw [e1, h x y, h b y, h x b]
  cases (y != x) <;> cases (x != b) <;> cases (y != b) <;> cases A y x <;> cases A y b <;> cases A b x <;> cases (x == a) <;> cases (y == a) <;> rfl

theorem contr_irr (A : Adj) (a b : Nat) : Irr (contr A a b) := by
  intro x
  simp [contr]

theorem low_in_contr {A : Adj} {S : List Nat} {a b p : Nat} (hs : Sym A) (hi : Irr A) (hn : S.Nodup) (ha : a ∈ S) (hb : b ∈ S) (hab : a ≠ b)
    (hp : p ∈ rem S b) (hpa : p ≠ a) (d2 : deg (contr A a b) (rem S b) p ≤ 2) (d3 : 3 ≤ deg A S p) :
    A p a = true ∧ A p b = true ∧ deg A S p ≤ 3 := by
  have hp' := mem_rem.1 hp
  unfold deg at *
  have mono : ∀ y, y ≠ b → A p y = true → contr A a b p y = true := by
    intro y hyb hy
    have : p ≠ y := fun e => by rw [← e, hi] at hy; cases hy
    simp [contr, this, hp'.2, hyb, hy]
  cases hpb : A p b with
  | false =>
    exfalso
    rw [← countP_rem_not (u := b) hpb] at d3
    have := countP_le_of_imp (S := rem S b) (p := A p) (q := contr A a b p) fun y hy h => mono y (mem_rem.1 hy).2 h
    omega
  | true =>
    have e1 := countP_rem hn hb hpb
    have e2 := countP_le_of_imp (S := rem S b) (p := A p) (q := contr A a b p) fun y hy h => mono y (mem_rem.1 hy).2 h
    refine ⟨?_, rfl, by omega⟩
    cases hpA : A p a with
    | true => rfl
    | false =>
      exfalso
      have hca : contr A a b p a = true := by simp [contr, hpa, hp'.2, hab, hpb]
      have f1 := countP_rem (nodup_rem b hn) (mem_rem.2 ⟨ha, hab⟩) hca
      have f2 := countP_le_of_imp (S := rem (rem S b) a) (p := A p) (q := contr A a b p) fun y hy h => mono y (mem_rem.1 (mem_rem.1 hy).1).2 h
      have f3 := countP_rem_not (S := rem S b) (u := a) hpA
      omega

theorem edge_two {A : Adj} {S : List Nat} {a b : Nat} (hs : Sym A) (hi : Irr A) (hn : S.Nodup) (h5 : 5 ≤ S.length) (h3 : ∀ x ∈ S, 3 ≤ deg A S x)
    (ha : a ∈ S) (hb : b ∈ S) (hab : A a b = true) (hE : El 2 (contr A a b) (rem S b)) :
    ∃ p q, p ∈ S ∧ q ∈ S ∧ p ≠ q ∧ p ≠ a ∧ p ≠ b ∧ q ≠ a ∧ q ≠ b ∧ A p a = true ∧ A p b = true ∧ A q a = true ∧ A q b = true ∧ A p q = false ∧
      deg A S p ≤ 3 ∧ deg A S q ≤ 3 := by
  have hne : a ≠ b := fun e => by rw [e, hi] at hab; cases hab
  have el := length_rem hn hb
  obtain ⟨p, q, hp, hq, hpq, hc, dp, dq⟩ := two_apart hE (contr_sym hs a b) (contr_irr A a b) (nodup_rem b hn) (by omega)
  have hp' := mem_rem.1 hp
  have hq' := mem_rem.1 hq
  have apart : ∀ x y, x ≠ y → x ≠ b → y ≠ b → contr A a b x y = false → A x y = false := by
    intro x y h1 h2 h3 h
    cases e : A x y with
    | false => rfl
    | true => simp [contr, h1, h2, h3, e] at h
  have hpa : p ≠ a := by
    intro e
    subst e
    have := (low_in_contr hs hi hn ha hb hne hq (Ne.symm hpq) dq (h3 q hq'.1)).1
    rw [hs, apart p q hpq hne hq'.2 hc] at this
    cases this
  have hqa : q ≠ a := by
    intro e
    subst e
    have := (low_in_contr hs hi hn ha hb hne hp hpq dp (h3 p hp'.1)).1
    rw [apart p q hpq hp'.2 hne hc] at this
    cases this
  have k1 := low_in_contr hs hi hn ha hb hne hp hpa dp (h3 p hp'.1)
  have k2 := low_in_contr hs hi hn ha hb hne hq hqa dq (h3 q hq'.1)
  exact ⟨p, q, hp'.1, hq'.1, hpq, hpa, hp'.2, hqa, hq'.2, k1.1, k1.2.1, k2.1, k2.2.1, apart p q hpq hp'.2 hq'.2 hc, k1.2.2, k2.2.2⟩

theorem four_le {f : Nat → Bool} {S : List Nat} {a b c d : Nat} (hn : S.Nodup) (ha : a ∈ S) (hb : b ∈ S) (hc : c ∈ S) (hd : d ∈ S)
    (fa : f a = true) (fb : f b = true) (fc : f c = true) (fd : f d = true)
    (ab : a ≠ b) (ac : a ≠ c) (ad : a ≠ d) (bc : b ≠ c) (bd : b ≠ d) (cd : c ≠ d) : 4 ≤ S.countP f := by
  have e1 := countP_rem hn ha fa
  have e2 := countP_rem (nodup_rem a hn) (mem_rem.2 ⟨hb, ab.symm⟩) fb
  have e3 := countP_rem (nodup_rem b (nodup_rem a hn)) (mem_rem.2 ⟨mem_rem.2 ⟨hc, ac.symm⟩, bc.symm⟩) fc
  have e4 := countP_rem (nodup_rem c (nodup_rem b (nodup_rem a hn))) (mem_rem.2 ⟨mem_rem.2 ⟨mem_rem.2 ⟨hd, ad.symm⟩, bd.symm⟩, cd.symm⟩) fd
  omega

/-- Where all degrees are at least 3 and there are five places or more, some two tied places can be put together that leave a rest. -/
theorem heart {A : Adj} {S : List Nat} (hs : Sym A) (hi : Irr A) (hn : S.Nodup) (h5 : 5 ≤ S.length) (h3 : ∀ x ∈ S, 3 ≤ deg A S x) :
    ∃ a b, a ∈ S ∧ b ∈ S ∧ A a b = true ∧ ¬ El 2 (contr A a b) (rem S b) := by
  refine Classical.byContradiction fun hno => ?_
  have hE : ∀ a b, a ∈ S → b ∈ S → A a b = true → El 2 (contr A a b) (rem S b) := fun a b ha hb hab =>
    Classical.byContradiction fun h => hno ⟨a, b, ha, hb, hab, h⟩
  have E := fun a b ha hb hab => edge_two (a := a) (b := b) hs hi hn h5 h3 ha hb hab (hE a b ha hb hab)
  have hex : ∃ a, a ∈ S := by
    cases S with
    | nil => simp at h5
    | cons x r => exact ⟨x, List.mem_cons_self⟩
  obtain ⟨a, ha⟩ := hex
  have hb : ∃ b, b ∈ S ∧ A a b = true := by
    have := h3 a ha
    unfold deg at this
    have pos : 0 < S.countP (A a) := by omega
    obtain ⟨b, h1, h2⟩ := List.countP_pos_iff.1 pos
    exact ⟨b, h1, h2⟩
  obtain ⟨b, hb, hab⟩ := hb
  have irr : ∀ {x y}, A x y = true → x ≠ y := fun {x y} h e => by rw [e, hi] at h; cases h
  have sym : ∀ {x y}, A x y = true → A y x = true := fun {x y} h => by rw [hs]; exact h
  obtain ⟨p, q, hp, hq, hpq, hpa, hpb, hqa, hqb, Apa, Apb, Aqa, Aqb, Apq, dp, dq⟩ := E a b ha hb hab
  -- b has degree at most 3
  have db : deg A S b ≤ 3 := by
    obtain ⟨p1, q1, hp1, hq1, hne, p1a, p1p, q1a, q1p, Ap1a, Ap1p, Aq1a, Aq1p, _, dp1, dq1⟩ := E a p ha hp (sym Apa)
    by_cases e1 : b = p1
    · rw [e1]; exact dp1
    by_cases e2 : b = q1
    · rw [e2]; exact dq1
    have := four_le hn ha hb hp1 hq1 Apa Apb (sym Ap1p) (sym Aq1p) (irr hab) (Ne.symm p1a) (Ne.symm q1a) e1 e2 hne
    unfold deg at dp
    omega
  obtain ⟨p2, q2, hp2, hq2, hne, p2b, p2p, q2b, q2p, Ap2b, Ap2p, Aq2b, Aq2p, _, _, _⟩ := E b p hb hp (sym Apb)
  have noq : ∀ z, z ∈ S → z ≠ p → A z b = true → A z p = true → z = a := by
    intro z hz hzp h1 h2
    refine Classical.byContradiction fun hza => ?_
    have hzq : z ≠ q := fun e => by
      rw [e, hs, Apq] at h2; cases h2
    have := four_le hn ha hp hq hz (sym hab) (sym Apb) (sym Aqb) (sym h1) (Ne.symm hpa) (Ne.symm hqa) (Ne.symm hza) hpq (Ne.symm hzp) (Ne.symm hzq)
    unfold deg at db
    omega
  exact hne ((noq p2 hp2 p2p Ap2b Ap2p).trans (noq q2 hq2 q2p Aq2b Aq2p).symm)

end Bw
/-! ### M3 -/
namespace Bw

theorem nodup_sub_length : ∀ {l m : List Nat}, l.Nodup → (∀ x ∈ l, x ∈ m) → l.length ≤ m.length
  | [], m, _, _ => Nat.zero_le _
  | a :: r, m, hn, hs => by
    rw [List.nodup_cons] at hn
    have ha : a ∈ m := hs a List.mem_cons_self
    have ih := nodup_sub_length (l := r) (m := m.erase a) hn.2 fun x hx => by
      have hxa : x ≠ a := fun e => hn.1 (e ▸ hx)
      exact (List.mem_erase_of_ne hxa).2 (hs x (List.mem_cons_of_mem _ hx))
    rw [List.length_erase_of_mem ha] at ih
    have : 0 < m.length := List.length_pos_of_mem ha
    rw [List.length_cons]
    omega

theorem countP_sub {p : Nat → Bool} {C S : List Nat} (hn : C.Nodup) (hs : ∀ x ∈ C, x ∈ S) : C.countP p ≤ S.countP p := by
  rw [List.countP_eq_length_filter, List.countP_eq_length_filter]
  refine nodup_sub_length (List.Nodup.sublist List.filter_sublist hn) fun x hx => ?_
  rw [List.mem_filter] at hx ⊢
  exact ⟨hs x hx.1, hx.2⟩

/-- every part that is not empty has a place tied with at most one of the part -/
def Thin (A : Adj) (S : List Nat) : Prop := ∀ C : List Nat, C.Nodup → C ≠ [] → (∀ x ∈ C, x ∈ S) → ∃ v ∈ C, deg A C v ≤ 1

theorem El.thin {A : Adj} {S : List Nat} (h : El 1 A S) : Sym A → Irr A → S.Nodup → Thin A S := by
  induction h with
  | nil A =>
    intro _ _ _ C _ hne hs
    cases C with
    | nil => exact absurd rfl hne
    | cons x r => exact absurd (hs x List.mem_cons_self) List.not_mem_nil
  | @step A S v hv dv hE ih =>
    intro hs hi hn C hC hne hsub
    by_cases hvC : v ∈ C
    · exact ⟨v, hvC, Nat.le_trans (countP_sub hC hsub) dv⟩
    · obtain ⟨x, hx, dx⟩ := ih (elim_sym hs v) (elim_irr A v) (nodup_rem v hn) C hC hne fun x hx => mem_rem.2 ⟨hsub x hx, fun e => hvC (e ▸ hx)⟩
      refine ⟨x, hx, Nat.le_trans (countP_le_of_imp fun y hy h => ?_) dx⟩
      have h1 : x ≠ y := fun e => by rw [← e, hi] at h; cases h
      have h2 : x ≠ v := fun e => hvC (e ▸ hx)
      have h3 : y ≠ v := fun e => hvC (e ▸ hy)
      simp [elim, h1, h2, h3, h]

theorem low_one {A : Adj} {S : List Nat} {v x y : Nat} (hn : S.Nodup) (dv : deg A S v ≤ 1) (hx : x ∈ S) (hy : y ∈ S) (ax : A v x = true) (ay : A v y = true) : x = y := by
  refine Classical.byContradiction fun hne => ?_
  unfold deg at dv
  have e1 := countP_rem hn hx ax
  have e2 := countP_rem (nodup_rem x hn) (mem_rem.2 ⟨hy, Ne.symm hne⟩) ay
  omega

theorem elim_low {A : Adj} {S : List Nat} {v : Nat} (hs : Sym A) (hi : Irr A) (hn : S.Nodup) (dv : deg A S v ≤ 1) :
    ∀ x ∈ rem S v, ∀ y ∈ rem S v, elim A v x y = A x y := by
  intro x hx y hy
  rw [mem_rem] at hx hy
  by_cases e : x = y
  · subst e; rw [elim_irr, hi]
  · cases hxy : A x y with
    | true => simp [elim, e, hx.2, hy.2, hxy]
    | false =>
      cases hxv : A x v with
      | false => simp [elim, hxy, hxv]
      | true =>
        cases hvy : A v y with
        | false => simp [elim, hxy, hvy]
        | true => exact absurd (low_one hn dv hx.1 hy.1 (by rw [hs]; exact hxv) hvy) e

theorem Thin.el : ∀ (k : Nat) {A : Adj} {S : List Nat}, S.length = k → Sym A → Irr A → S.Nodup → Thin A S → El 1 A S
  | 0, A, S, hk, _, _, _, _ => by
    have : S = [] := List.length_eq_zero_iff.1 hk
    rw [this]; exact .nil A
  | k + 1, A, S, hk, hs, hi, hn, ht => by
    have hne : S ≠ [] := fun e => by rw [e] at hk; simp at hk
    obtain ⟨v, hv, dv⟩ := ht S hn hne fun _ h => h
    have el := length_rem hn hv
    refine .step v hv dv (El.congr (A := A) (Thin.el k (by omega) hs hi (nodup_rem v hn) fun C hC hne hsub => ?_) fun x hx y hy => (elim_low hs hi hn dv x hx y hy).symm)
    exact ht C hC hne fun x hx => (mem_rem.1 (hsub x hx)).1

theorem El.iff_thin {A : Adj} {S : List Nat} (hs : Sym A) (hi : Irr A) (hn : S.Nodup) : El 1 A S ↔ Thin A S :=
  ⟨fun h => h.thin hs hi hn, fun h => Thin.el _ rfl hs hi hn h⟩

/-- in a wood each tie parts its two ends -/
theorem El.parts {A : Adj} {S : List Nat} (h : El 1 A S) : Sym A → Irr A → S.Nodup → ∀ {a b : Nat}, a ∈ S → b ∈ S → A a b = true →
    ∃ X : Nat → Bool, X a = true ∧ X b = false ∧ ∀ x ∈ S, ∀ y ∈ S, A x y = true → ¬ (x = a ∧ y = b) → ¬ (x = b ∧ y = a) → X x = X y := by
  induction h with
  | nil A => intro _ _ _ a b ha; cases ha
  | @step A S v hv dv hE ih =>
    intro hs hi hn a b ha hb hab
    have hne : a ≠ b := fun e => by rw [e, hi] at hab; cases hab
    by_cases hva : v = a
    · subst hva
      refine ⟨fun x => x == v, by simp, by simpa using hne.symm, fun x hx y hy hxy n1 n2 => ?_⟩
      by_cases e1 : x = v
      · subst e1
        exact absurd ⟨rfl, low_one hn dv hy hb hxy hab⟩ n1
      · by_cases e2 : y = v
        · subst e2
          exact absurd ⟨low_one hn dv hx hb (by rw [hs]; exact hxy) hab, rfl⟩ n2
        · show (x == v) = (y == v)
          rw [beq_eq_false_iff_ne.2 e1, beq_eq_false_iff_ne.2 e2]
    · by_cases hvb : v = b
      · subst hvb
        refine ⟨fun x => x != v, by simpa using hne, by simp, fun x hx y hy hxy n1 n2 => ?_⟩
        have hba : A v a = true := by rw [hs]; exact hab
        by_cases e1 : x = v
        · subst e1
          exact absurd ⟨rfl, low_one hn dv hy ha hxy hba⟩ n2
        · by_cases e2 : y = v
          · subst e2
            exact absurd ⟨low_one hn dv hx ha (by rw [hs]; exact hxy) hba, rfl⟩ n1
          · have e1' : (x != v) = true := by simpa using e1
            have e2' : (y != v) = true := by simpa using e2
            simp only [e1', e2']
      · have ag := elim_low hs hi hn dv
        have ha' : a ∈ rem S v := mem_rem.2 ⟨ha, Ne.symm hva⟩
        have hb' : b ∈ rem S v := mem_rem.2 ⟨hb, Ne.symm hvb⟩
        obtain ⟨X, xa, xb, hX⟩ := ih (elim_sym hs v) (elim_irr A v) (nodup_rem v hn) ha' hb' (by rw [ag a ha' b hb']; exact hab)
        have hX' : ∀ x ∈ S, ∀ y ∈ S, x ≠ v → y ≠ v → A x y = true → ¬ (x = a ∧ y = b) → ¬ (x = b ∧ y = a) → X x = X y := fun x hx y hy h1 h2 hxy n1 n2 =>
          hX x (mem_rem.2 ⟨hx, h1⟩) y (mem_rem.2 ⟨hy, h2⟩) (by rw [ag x (mem_rem.2 ⟨hx, h1⟩) y (mem_rem.2 ⟨hy, h2⟩)]; exact hxy) n1 n2
        by_cases hex : ∃ u, u ∈ S ∧ A v u = true
        · obtain ⟨u, hu, hvu⟩ := hex
          have huv : u ≠ v := fun e => by rw [e, hi] at hvu; cases hvu
          refine ⟨fun x => if x = v then X u else X x, by simp [Ne.symm hva, xa], by simp [Ne.symm hvb, xb], fun x hx y hy hxy n1 n2 => ?_⟩
          by_cases e1 : x = v
          · subst e1
            have : y = u := low_one hn dv hy hu hxy hvu
            subst this
            simp [huv]
          · by_cases e2 : y = v
            · subst e2
              have : x = u := low_one hn dv hx hu (by rw [hs]; exact hxy) hvu
              subst this
              simp [huv]
            · simp only [if_neg e1, if_neg e2]
              exact hX' x hx y hy e1 e2 hxy n1 n2
        · refine ⟨X, xa, xb, fun x hx y hy hxy n1 n2 => ?_⟩
          have e1 : x ≠ v := fun e => hex ⟨y, hy, by rw [← e]; exact hxy⟩
          have e2 : y ≠ v := fun e => hex ⟨x, hx, by rw [hs, ← e]; exact hxy⟩
          exact hX' x hx y hy e1 e2 hxy n1 n2

/-- a part in which all but one place have two ties within is no part of a wood -/
theorem Thin.tail {A : Adj} {S : List Nat} (hs : Sym A) (hi : Irr A) (ht : Thin A S) : ∀ (k : Nat) {C : List Nat} {a : Nat}, C.length = k → C.Nodup → (∀ x ∈ C, x ∈ S) → a ∈ C →
    (∀ v ∈ C, v ≠ a → 2 ≤ deg A C v) → 1 ≤ deg A C a → False
  | 0, C, a, hk, _, _, ha, _, _ => by
    have : C = [] := List.length_eq_zero_iff.1 hk
    rw [this] at ha; cases ha
  | k + 1, C, a, hk, hC, hsub, ha, h2, h1 => by
    obtain ⟨v, hv, dv⟩ := ht C hC (fun e => by rw [e] at ha; cases ha) hsub
    have e : v = a := Classical.byContradiction fun hne => by have := h2 v hv hne; omega
    subst e
    have pos : 0 < C.countP (A v) := h1
    obtain ⟨u, hu, hvu⟩ := List.countP_pos_iff.1 pos
    have huv : u ≠ v := fun e => by rw [e, hi] at hvu; cases hvu
    have el := length_rem hC hv
    have deg_other : ∀ x ∈ C, x ≠ v → x ≠ u → deg A (rem C v) x = deg A C x := fun x hx hxv hxu => by
      unfold deg
      refine countP_rem_not ?_
      cases h : A x v with
      | false => rfl
      | true => exact absurd (low_one hC dv hx hu (by rw [hs]; exact h) hvu) hxu
    refine Thin.tail hs hi ht k (C := rem C v) (a := u) (by omega) (nodup_rem v hC) (fun x hx => hsub x (mem_rem.1 hx).1) (mem_rem.2 ⟨hu, huv⟩) (fun x hx hxu => ?_) ?_
    · rw [mem_rem] at hx
      rw [deg_other x hx.1 hx.2 hxu]
      exact h2 x hx.1 hx.2
    · have h := h2 u hu huv
      have huv' : A u v = true := by rw [hs]; exact hvu
      have := countP_rem hC hv huv'
      unfold deg at *
      omega
end Bw
/-! ### M4 -/
namespace Bw

/-! ### ties -/
abbrev Ties := List (Nat × Nat)
def adjT (ties : Ties) : Adj := fun x y => decide ((x, y) ∈ ties) || decide ((y, x) ∈ ties)
/-- ties of a graph of n places -/
structure TOk (n : Nat) (ties : Ties) : Prop where
  nd : ties.Nodup
  lt : ∀ a b, (a, b) ∈ ties → a < b ∧ b < n

theorem adjT_sym (ties : Ties) : Sym (adjT ties) := fun x y => by
  unfold adjT
  exact Bool.or_comm _ _
theorem adjT_iff {ties : Ties} {x y : Nat} : adjT ties x y = true ↔ (x, y) ∈ ties ∨ (y, x) ∈ ties := by
  simp [adjT]
theorem TOk.irr {n : Nat} {ties : Ties} (h : TOk n ties) : Irr (adjT ties) := fun x => by
  cases e : adjT ties x x with
  | false => rfl
  | true =>
    rw [adjT_iff] at e
    have := e.elim (h.lt x x) (h.lt x x)
    omega
theorem TOk.lts {n : Nat} {ties : Ties} (h : TOk n ties) {x y : Nat} (e : adjT ties x y = true) : x < n ∧ y < n := by
  rw [adjT_iff] at e
  rcases e with e | e
  · have := h.lt _ _ e; omega
  · have := h.lt _ _ e; omega

/-! ### marks: ties taken one by one -/
abbrev Lab := Nat → Nat
def merge (l : Lab) (t : Nat × Nat) : Lab := if l t.1 = l t.2 then l else fun x => if l x = max (l t.1) (l t.2) then min (l t.1) (l t.2) else l x
structure LOk (l : Lab) (ties : Ties) : Prop where
  fix : ∀ x, l (l x) = l x
  le : ∀ x, l x ≤ x
  edge : ∀ a b, (a, b) ∈ ties → l a = l b
  conn : ∀ X : Nat → Bool, (∀ a b, (a, b) ∈ ties → X a = X b) → ∀ x, X (l x) = X x

theorem LOk.nil : LOk id [] := ⟨fun _ => rfl, fun _ => Nat.le_refl _, fun _ _ h => (by cases h), fun _ _ _ => rfl⟩

theorem LOk.snoc {l : Lab} {ties : Ties} (h : LOk l ties) (t : Nat × Nat) : LOk (merge l t) (ties ++ [t]) := by
  obtain ⟨a, b⟩ := t
  by_cases e : l a = l b
  · have em : merge l (a, b) = l := by
      unfold merge
      rw [if_pos e]
    rw [em]
    refine ⟨h.fix, h.le, fun x y hxy => ?_, fun X hX x => h.conn X (fun a b hab => hX a b (List.mem_append_left _ hab)) x⟩
    rw [List.mem_append, List.mem_singleton] at hxy
    rcases hxy with hxy | hxy
    · exact h.edge x y hxy
    · cases hxy; exact e
  · have em : merge l (a, b) = fun x => if l x = max (l a) (l b) then min (l a) (l b) else l x := by
      unfold merge
      rw [if_neg e]
    rw [em]
    have hM : l (max (l a) (l b)) = max (l a) (l b) := by
      rcases Nat.le_total (l a) (l b) with q | q
      · rw [Nat.max_eq_right q]; exact h.fix b
      · rw [Nat.max_eq_left q]; exact h.fix a
    have hm : l (min (l a) (l b)) = min (l a) (l b) := by
      rcases Nat.le_total (l a) (l b) with q | q
      · rw [Nat.min_eq_left q]; exact h.fix a
      · rw [Nat.min_eq_right q]; exact h.fix b
    have hne : min (l a) (l b) ≠ max (l a) (l b) := by omega
    refine ⟨fun x => ?_, fun x => ?_, fun x y hxy => ?_, fun X hX x => ?_⟩
    · by_cases c : l x = max (l a) (l b)
      · simp only [if_pos c, hm, if_neg hne]
      · simp only [if_neg c, h.fix]
    · have := h.le x
      by_cases c : l x = max (l a) (l b)
      · simp only [if_pos c]
        omega
      · simp only [if_neg c]
        exact this
    · rw [List.mem_append, List.mem_singleton] at hxy
      rcases hxy with hxy | hxy
      · simp only [h.edge x y hxy]
      · cases hxy
        by_cases c : l a = max (l a) (l b)
        · have c2 : ¬ l b = max (l a) (l b) := fun q => e (c.trans q.symm)
          simp only [if_pos c, if_neg c2]
          omega
        · have c2 : l b = max (l a) (l b) := by omega
          simp only [if_neg c, if_pos c2]
          omega
    · have hX' : ∀ a b, (a, b) ∈ ties → X a = X b := fun a b hab => hX a b (List.mem_append_left _ hab)
      have e1 := h.conn X hX' a
      have e2 := h.conn X hX' b
      have e3 := hX a b (List.mem_append_right _ List.mem_cons_self)
      by_cases c : l x = max (l a) (l b)
      · simp only [if_pos c]
        have e4 := h.conn X hX' x
        rw [c] at e4
        rw [← e4]
        rcases Nat.le_total (l a) (l b) with q | q
        · rw [Nat.max_eq_right q, Nat.min_eq_left q, e1, e2, e3]
        · rw [Nat.max_eq_left q, Nat.min_eq_right q, e1, e2, e3]
      · simp only [if_neg c]
        exact h.conn X hX' x

/-- the marks of all ties -/
def marks (ties : Ties) : Lab := ties.foldl merge id
theorem marks_snoc (ties : Ties) (t : Nat × Nat) : marks (ties ++ [t]) = merge (marks ties) t := by
  unfold marks
  rw [List.foldl_append]
  rfl
theorem snoc_ind {α : Type} {P : List α → Prop} (h0 : P []) (h1 : ∀ l a, P l → P (l ++ [a])) : ∀ l, P l := by
  intro l
  rw [← List.reverse_reverse l]
  generalize l.reverse = r
  induction r with
  | nil => exact h0
  | cons a r ih => rw [List.reverse_cons]; exact h1 _ _ ih
theorem marks_ok (ties : Ties) : LOk (marks ties) ties :=
  snoc_ind (P := fun ties => LOk (marks ties) ties) LOk.nil (fun l t h => by rw [marks_snoc]; exact h.snoc t) ties

/-- every tie joined two heaps -/
def Joins : Ties → Prop := fun ties => ∀ pre a b post, ties = pre ++ (a, b) :: post → marks pre a ≠ marks pre b
theorem Joins.snoc {ties : Ties} {a b : Nat} : Joins (ties ++ [(a, b)]) ↔ Joins ties ∧ marks ties a ≠ marks ties b := by
  constructor
  · intro h
    refine ⟨fun pre x y post e => h pre x y (post ++ [(a, b)]) (by rw [e]; simp), h ties a b [] rfl⟩
  · rintro ⟨h, hne⟩ pre x y post e
    rcases List.eq_nil_or_concat post with rfl | ⟨post', t, rfl⟩
    · have := List.append_inj' e rfl
      obtain ⟨rfl, e2⟩ := this
      cases e2
      exact hne
    · have e' : ties ++ [(a, b)] = (pre ++ (x, y) :: post') ++ [t] := by rw [e]; simp
      have := List.append_inj' e' rfl
      exact h pre x y post' this.1

/-- heaps: the marks that mark themselves -/
def heaps (n : Nat) (l : Lab) : Nat := (List.range n).countP (fun x => l x == x)

theorem heaps_le (n : Nat) (l : Lab) : heaps n l ≤ n := by
  have := List.countP_le_length (p := fun x => l x == x) (l := List.range n)
  rw [List.length_range] at this
  exact this

theorem heaps_merge {n : Nat} {l : Lab} {ties : Ties} (h : LOk l ties) {a b : Nat} (ha : a < n) (hb : b < n) (e : l a ≠ l b) : heaps n (merge l (a, b)) + 1 = heaps n l := by
  have em : merge l (a, b) = fun x => if l x = max (l a) (l b) then min (l a) (l b) else l x := by
    unfold merge
    rw [if_neg e]
  have la := h.le a
  have lb := h.le b
  have hM : l (max (l a) (l b)) = max (l a) (l b) := by
    rcases Nat.le_total (l a) (l b) with q | q
    · rw [Nat.max_eq_right q]; exact h.fix b
    · rw [Nat.max_eq_left q]; exact h.fix a
  have hm : l (min (l a) (l b)) = min (l a) (l b) := by
    rcases Nat.le_total (l a) (l b) with q | q
    · rw [Nat.min_eq_left q]; exact h.fix a
    · rw [Nat.min_eq_right q]; exact h.fix b
  have hne : min (l a) (l b) ≠ max (l a) (l b) := by omega
  have hlt : max (l a) (l b) < n := by omega
  have c1 := countP_rem (p := fun x => l x == x) List.nodup_range (List.mem_range.2 hlt) (by simpa using hM)
  have c2 := countP_rem_not (p := fun x => merge l (a, b) x == x) (S := List.range n) (u := max (l a) (l b)) (by
    rw [em]
    simp only [hM, if_pos]
    exact beq_eq_false_iff_ne.2 hne)
  have c3 : (rem (List.range n) (max (l a) (l b))).countP (fun x => merge l (a, b) x == x) = (rem (List.range n) (max (l a) (l b))).countP (fun x => l x == x) := by
    refine List.countP_congr fun x hx => ?_
    rw [mem_rem] at hx
    rw [em]
    simp only [beq_iff_eq]
    by_cases c : l x = max (l a) (l b)
    · rw [if_pos c]
      constructor
      · intro q
        rw [← q] at c
        rw [hm] at c
        exact absurd c hne
      · intro q
        exact absurd (q.symm.trans c) hx.2
    · rw [if_neg c]
  unfold heaps
  omega

theorem heaps_id (n : Nat) : heaps n id = n := by
  unfold heaps
  rw [List.countP_eq_length.2 (fun x _ => by simp), List.length_range]

/-- ties are at least places less heaps; just as many where each joined two heaps -/
theorem heaps_ties {n : Nat} (ties : Ties) : (∀ a b, (a, b) ∈ ties → a < n ∧ b < n) → n ≤ heaps n (marks ties) + ties.length ∧ (n = heaps n (marks ties) + ties.length ↔ Joins ties) := by
  refine snoc_ind (P := fun ties => (∀ a b, (a, b) ∈ ties → a < n ∧ b < n) → n ≤ heaps n (marks ties) + ties.length ∧ (n = heaps n (marks ties) + ties.length ↔ Joins ties)) ?_ ?_ ties
  · intro _
    have : heaps n (marks []) = n := heaps_id n
    rw [this]
    refine ⟨by simp, fun _ pre a b post e => ?_, fun _ => by simp⟩
    have := congrArg List.length e
    simp at this
  · rintro l ⟨a, b⟩ ih hlt
    obtain ⟨i1, i2⟩ := ih fun a b h => hlt a b (List.mem_append_left _ h)
    obtain ⟨la, lb⟩ := hlt a b (List.mem_append_right _ List.mem_cons_self)
    rw [Joins.snoc, ← i2, marks_snoc, List.length_append, List.length_singleton]
    by_cases e : marks l a = marks l b
    · have em : merge (marks l) (a, b) = marks l := by
        unfold merge
        rw [if_pos e]
      rw [em]
      refine ⟨by omega, fun q => ?_, fun q => absurd e q.2⟩
      omega
    · have := heaps_merge (marks_ok l) la lb e
      refine ⟨by omega, fun q => ⟨by omega, e⟩, fun q => by omega⟩

/-- a wood's ties each join two heaps -/
theorem El.joins {n : Nat} {ties : Ties} (ok : TOk n ties) (h : El 1 (adjT ties) (List.range n)) : Joins ties := by
  intro pre a b post e
  have hmem : (a, b) ∈ ties := by rw [e]; simp
  obtain ⟨hab, hb⟩ := ok.lt a b hmem
  obtain ⟨X, xa, xb, hX⟩ := h.parts (adjT_sym ties) ok.irr List.nodup_range (List.mem_range.2 (by omega : a < n)) (List.mem_range.2 hb) (adjT_iff.2 (.inl hmem))
  have hnd : (a, b) ∉ pre := by
    have := ok.nd
    rw [e, List.nodup_append] at this
    intro q
    exact this.2.2 (a, b) q (a, b) List.mem_cons_self rfl
  have hpre : ∀ x y, (x, y) ∈ pre → X x = X y := fun x y hxy => by
    have hm : (x, y) ∈ ties := by rw [e]; exact List.mem_append_left _ hxy
    have := ok.lt x y hm
    refine hX x (List.mem_range.2 (by omega)) y (List.mem_range.2 (by omega)) (adjT_iff.2 (.inl hm)) (fun q => ?_) (fun q => ?_)
    · rw [q.1, q.2] at hxy; exact hnd hxy
    · omega
  intro q
  have k := marks_ok pre
  have e1 := k.conn X hpre a
  have e2 := k.conn X hpre b
  rw [q, e2, xa, xb] at e1
  cases e1

theorem TOk.pre {n : Nat} {l : Ties} {t : Nat × Nat} (h : TOk n (l ++ [t])) : TOk n l :=
  ⟨List.Nodup.sublist (List.sublist_append_left l [t]) h.nd, fun a b q => h.lt a b (List.mem_append_left _ q)⟩

theorem Joins.thin {n : Nat} (ties : Ties) : TOk n ties → Joins ties → Thin (adjT ties) (List.range n) := by
  refine snoc_ind (P := fun ties => TOk n ties → Joins ties → Thin (adjT ties) (List.range n)) ?_ ?_ ties
  · intro _ _ C _ hne _
    cases C with
    | nil => exact absurd rfl hne
    | cons x r =>
      refine ⟨x, List.mem_cons_self, ?_⟩
      unfold deg
      rw [List.countP_eq_zero.2 (fun y _ => by simp [adjT])]
      omega
  · rintro l ⟨a, b⟩ ih ok hj
    rw [Joins.snoc] at hj
    have okl := ok.pre
    have ht := ih okl hj.1
    have hab := ok.lt a b (List.mem_append_right _ List.mem_cons_self)
    have hnab : (a, b) ∉ l := by
      have := ok.nd
      rw [List.nodup_append] at this
      intro q
      exact this.2.2 (a, b) q (a, b) List.mem_cons_self rfl
    intro C hC hne hsub
    refine Classical.byContradiction fun hno => ?_
    have h2 : ∀ v ∈ C, 2 ≤ deg (adjT (l ++ [(a, b)])) C v := fun v hv => by
      refine Classical.byContradiction fun q => hno ⟨v, hv, by omega⟩
    have step : ∀ x y, adjT (l ++ [(a, b)]) x y = true → adjT l x y = true ∨ (x = a ∧ y = b) ∨ (x = b ∧ y = a) := by
      intro x y h
      rw [adjT_iff] at h
      simp only [List.mem_append, List.mem_singleton, Prod.mk.injEq] at h
      rcases h with (h | h) | (h | h)
      · exact .inl (adjT_iff.2 (.inl h))
      · exact .inr (.inl h)
      · exact .inl (adjT_iff.2 (.inr h))
      · exact .inr (.inr ⟨h.2, h.1⟩)
    have both : a ∈ C ∧ b ∈ C := by
      refine Classical.byContradiction fun q => ?_
      obtain ⟨v, hv, dv⟩ := ht C hC hne hsub
      have := h2 v hv
      have le : deg (adjT (l ++ [(a, b)])) C v ≤ deg (adjT l) C v := by
        refine countP_le_of_imp fun y hy h => ?_
        rcases step v y h with h | h | h
        · exact h
        · exact absurd ⟨h.1 ▸ hv, h.2 ▸ hy⟩ q
        · exact absurd ⟨h.2 ▸ hy, h.1 ▸ hv⟩ q
      omega
    obtain ⟨ha, hb⟩ := both
    have k := marks_ok l
    have edge : ∀ x y, adjT l x y = true → marks l x = marks l y := fun x y h => by
      rw [adjT_iff] at h
      rcases h with h | h
      · exact k.edge x y h
      · exact (k.edge y x h).symm
    -- the part on a's side
    have hC1 : (C.filter (fun y => marks l y == marks l a)).Nodup := List.Nodup.sublist List.filter_sublist hC
    have mem1 : ∀ y, y ∈ C.filter (fun y => marks l y == marks l a) ↔ y ∈ C ∧ marks l y = marks l a := fun y => by
      rw [List.mem_filter, beq_iff_eq]
    refine Thin.tail (adjT_sym l) okl.irr ht _ (C := C.filter (fun y => marks l y == marks l a)) (a := a) rfl hC1 (fun x hx => hsub x ((mem1 x).1 hx).1) ((mem1 a).2 ⟨ha, rfl⟩) (fun v hv hva => ?_) ?_
    · rw [mem1] at hv
      have hvb : v ≠ b := fun e => hj.2 (by rw [← e, hv.2])
      refine Nat.le_trans (h2 v hv.1) ?_
      unfold deg
      rw [List.countP_filter]
      refine countP_le_of_imp fun y hy h => ?_
      rcases step v y h with h | h | h
      · rw [Bool.and_eq_true, beq_iff_eq]
        exact ⟨h, (edge v y h).symm.trans hv.2⟩
      · exact absurd h.1 hva
      · exact absurd h.1 hvb
    · have e1 := h2 a ha
      unfold deg at e1 ⊢
      rw [countP_rem hC hb (adjT_iff.2 (.inl (List.mem_append_right _ List.mem_cons_self)))] at e1
      have le : (rem C b).countP (adjT (l ++ [(a, b)]) a) ≤ (C.filter (fun y => marks l y == marks l a)).countP (adjT l a) := by
        rw [List.countP_filter]
        refine Nat.le_trans (countP_le_of_imp (q := fun y => adjT l a y && (marks l y == marks l a)) fun y hy h => ?_) (countP_rem_le _ _ _)
        rw [mem_rem] at hy
        rcases step a y h with h | h | h
        · rw [Bool.and_eq_true, beq_iff_eq]
          exact ⟨h, (edge a y h).symm⟩
        · exact absurd h.2 hy.2
        · omega
      omega

/-- as many ties as places less heaps: just the woods -/
theorem wood_iff {n : Nat} {ties : Ties} (ok : TOk n ties) : n = heaps n (marks ties) + ties.length ↔ El 1 (adjT ties) (List.range n) := by
  rw [(heaps_ties ties fun a b h => by have := ok.lt a b h; omega).2]
  exact ⟨fun h => Thin.el _ rfl (adjT_sym ties) ok.irr List.nodup_range (h.thin ties ok), fun h => h.joins ok⟩
end Bw
/-! ### M5 -/
namespace Bw

def stepR (l : Lab) (t : Nat × Nat) : Lab := fun x => if x = t.1 ∨ x = t.2 then min (l t.1) (l t.2) else l x
def passR (ties : Ties) (l : Lab) : Lab := ties.foldl stepR l
def rounds (ties : Ties) : Nat → Lab
  | 0 => id
  | k + 1 => passR ties (rounds ties k)

/-- marks on the way down to m -/
structure Down (n : Nat) (m l : Lab) : Prop where
  same : ∀ x, x < n → m (l x) = m x
  le : ∀ x, x < n → l x ≤ x

theorem Down.step {n : Nat} {m l : Lab} {ties : Ties} (k : LOk m ties) (d : Down n m l) {a b : Nat} (hm : (a, b) ∈ ties) (ha : a < n) (hb : b < n) : Down n m (stepR l (a, b)) := by
  have e := k.edge a b hm
  have e1 := d.same a ha
  have e2 := d.same b hb
  have l1 := d.le a ha
  have l2 := d.le b hb
  refine ⟨fun x hx => ?_, fun x hx => ?_⟩
  · unfold stepR
    by_cases c : x = a ∨ x = b
    · rw [if_pos c]
      have ex : m x = m a := by
        rcases c with c | c
        · rw [c]
        · rw [c, e]
      rw [ex]
      rcases Nat.le_total (l a) (l b) with q | q
      · show m (min (l a) (l b)) = m a
        rw [Nat.min_eq_left q]; exact e1
      · show m (min (l a) (l b)) = m a
        rw [Nat.min_eq_right q, e2, e]
    · rw [if_neg c]
      exact d.same x hx
  · unfold stepR
    by_cases c : x = a ∨ x = b
    · rw [if_pos c]
      show min (l a) (l b) ≤ x
      rcases c with c | c
      · rw [c]; omega
      · rw [c]; omega
    · rw [if_neg c]
      exact d.le x hx

theorem Down.ge {n : Nat} {m l : Lab} {ties : Ties} (k : LOk m ties) (d : Down n m l) {x : Nat} (hx : x < n) : m x ≤ l x := by
  rw [← d.same x hx]
  exact k.le _

theorem Down.keep {n : Nat} {m l : Lab} {ties : Ties} (k : LOk m ties) (d : Down n m l) {a b : Nat} (hm : (a, b) ∈ ties) (ha : a < n) (hb : b < n) {x : Nat} (hx : x < n) (h : l x = m x) :
    stepR l (a, b) x = m x := by
  have d' := d.step k hm ha hb
  have g := d'.ge k hx
  have : stepR l (a, b) x ≤ l x := by
    unfold stepR
    by_cases c : x = a ∨ x = b
    · rw [if_pos c]
      show min (l a) (l b) ≤ l x
      rcases c with c | c
      · rw [c]; omega
      · rw [c]; omega
    · rw [if_neg c]
      exact Nat.le_refl _
  omega

theorem Down.both {n : Nat} {m l : Lab} {ties : Ties} (k : LOk m ties) (d : Down n m l) {a b : Nat} (hm : (a, b) ∈ ties) (ha : a < n) (hb : b < n) (h : l a = m a ∨ l b = m b) :
    stepR l (a, b) a = m a ∧ stepR l (a, b) b = m b := by
  have d' := d.step k hm ha hb
  have ga := d'.ge k ha
  have gb := d'.ge k hb
  have e := k.edge a b hm
  have ea : stepR l (a, b) a = min (l a) (l b) := by simp [stepR]
  have eb : stepR l (a, b) b = min (l a) (l b) := by simp [stepR]
  rw [ea] at ga ⊢
  rw [eb] at gb ⊢
  rcases h with h | h
  · have : min (l a) (l b) ≤ l a := Nat.min_le_left _ _
    omega
  · have : min (l a) (l b) ≤ l b := Nat.min_le_right _ _
    omega

/-- a pass over the ties -/
theorem pass_ok {n : Nat} {m : Lab} {ties : Ties} (k : LOk m ties) (hlt : ∀ a b, (a, b) ∈ ties → a < n ∧ b < n) {l0 : Lab} (d0 : Down n m l0) :
    ∀ l : Ties, (∀ t ∈ l, t ∈ ties) → Down n m (l.foldl stepR l0) ∧ (∀ x, x < n → l0 x = m x → (l.foldl stepR l0) x = m x) ∧
      (∀ a b, (a, b) ∈ l → l0 a = m a ∨ l0 b = m b → (l.foldl stepR l0) a = m a ∧ (l.foldl stepR l0) b = m b) := by
  refine snoc_ind ?_ ?_
  · intro _
    exact ⟨d0, fun _ _ h => h, fun a b h => by cases h⟩
  · rintro l ⟨a, b⟩ ih hs
    obtain ⟨i1, i2, i3⟩ := ih fun t h => hs t (List.mem_append_left _ h)
    have hm : (a, b) ∈ ties := hs _ (List.mem_append_right _ List.mem_cons_self)
    obtain ⟨ha, hb⟩ := hlt a b hm
    rw [List.foldl_append]
    show Down n m (stepR (l.foldl stepR l0) (a, b)) ∧ (∀ x, x < n → l0 x = m x → stepR (l.foldl stepR l0) (a, b) x = m x) ∧ _
    refine ⟨i1.step k hm ha hb, fun x hx h => i1.keep k hm ha hb hx (i2 x hx h), fun x y hxy h => ?_⟩
    rw [List.mem_append, List.mem_singleton] at hxy
    rcases hxy with hxy | hxy
    · obtain ⟨hx, hy⟩ := hlt x y (hs _ (List.mem_append_left _ hxy))
      obtain ⟨j1, j2⟩ := i3 x y hxy h
      exact ⟨i1.keep k hm ha hb hx j1, i1.keep k hm ha hb hy j2⟩
    · cases hxy
      exact i1.both k hm ha hb (h.imp (i2 a ha) (i2 b hb))

def goods (n : Nat) (m l : Lab) : Nat := (List.range n).countP (fun x => l x == m x)

theorem pass_more {n : Nat} {m : Lab} {ties : Ties} (k : LOk m ties) (hlt : ∀ a b, (a, b) ∈ ties → a < n ∧ b < n) {l0 : Lab} (d0 : Down n m l0) :
    Down n m (passR ties l0) ∧ (goods n m l0 = n → goods n m (passR ties l0) = n) ∧ (goods n m l0 < n → goods n m l0 < goods n m (passR ties l0)) := by
  obtain ⟨i1, i2, i3⟩ := pass_ok k hlt d0 ties fun _ h => h
  have mono : goods n m l0 ≤ goods n m (passR ties l0) := countP_le_of_imp fun x hx h => by
    rw [beq_iff_eq] at h ⊢
    exact i2 x (List.mem_range.1 hx) h
  have top : ∀ l, goods n m l ≤ n := fun l => by
    have := List.countP_le_length (p := fun x => l x == m x) (l := List.range n)
    rw [List.length_range] at this
    exact this
  have t1 := top (passR ties l0)
  refine ⟨i1, fun h => by omega, fun hlt0 => ?_⟩
  refine Classical.byContradiction fun hno => ?_
  have heq : goods n m (passR ties l0) = goods n m l0 := by omega
  -- nothing new is good: then the good ones are closed, so all are good
  have back : ∀ x, x < n → (passR ties l0) x = m x → l0 x = m x := by
    intro x hx hg
    refine Classical.byContradiction fun hb => ?_
    have c1 := countP_rem (p := fun x => passR ties l0 x == m x) List.nodup_range (List.mem_range.2 hx) (by simpa using hg)
    have c2 := countP_rem_not (p := fun x => l0 x == m x) (S := List.range n) (u := x) (by simpa using hb)
    have c3 : (rem (List.range n) x).countP (fun x => l0 x == m x) ≤ (rem (List.range n) x).countP (fun x => passR ties l0 x == m x) :=
      countP_le_of_imp fun y hy h => by
        rw [beq_iff_eq] at h ⊢
        exact i2 y (List.mem_range.1 (mem_rem.1 hy).1) h
    unfold goods at heq
    omega
  have all : ∀ x, x < n → l0 x = m x := by
    intro x hx
    have cl : ∀ a b, (a, b) ∈ ties → decide (l0 a = m a) = decide (l0 b = m b) := by
      intro a b hm
      obtain ⟨ha, hb⟩ := hlt a b hm
      by_cases h : l0 a = m a ∨ l0 b = m b
      · obtain ⟨j1, j2⟩ := i3 a b hm h
        rw [decide_eq_true (back a ha j1), decide_eq_true (back b hb j2)]
      · rw [decide_eq_false (fun q => h (.inl q)), decide_eq_false (fun q => h (.inr q))]
    have c := k.conn (fun x => decide (l0 x = m x)) cl x
    have hmx : m x < n := by have := k.le x; omega
    have g0 : l0 (m x) = m (m x) := by
      have h1 := d0.le (m x) hmx
      have h2 := d0.ge k hmx
      rw [k.fix] at h2 ⊢
      omega
    have : decide (l0 x = m x) = true := by
      rw [← c]
      exact decide_eq_true g0
    exact of_decide_eq_true this
  have : goods n m l0 = n := by
    unfold goods
    rw [List.countP_eq_length.2 (fun x hx => by simpa using all x (List.mem_range.1 hx)), List.length_range]
  omega

theorem rounds_ok {n : Nat} {ties : Ties} (hlt : ∀ a b, (a, b) ∈ ties → a < n ∧ b < n) : ∀ k, Down n (marks ties) (rounds ties k) ∧ min k n ≤ goods n (marks ties) (rounds ties k)
  | 0 => ⟨⟨fun _ _ => rfl, fun x _ => Nat.le_refl _⟩, by omega⟩
  | k + 1 => by
    obtain ⟨d, g⟩ := rounds_ok hlt k
    obtain ⟨d', e1, e2⟩ := pass_more (marks_ok ties) hlt d
    refine ⟨d', ?_⟩
    show min (k + 1) n ≤ goods n (marks ties) (passR ties (rounds ties k))
    have : goods n (marks ties) (rounds ties k) ≤ n := by
      have := List.countP_le_length (p := fun x => rounds ties k x == marks ties x) (l := List.range n)
      rw [List.length_range] at this
      exact this
    by_cases h : goods n (marks ties) (rounds ties k) = n
    · rw [e1 h]; omega
    · have := e2 (by omega)
      omega

theorem rounds_marks {n : Nat} {ties : Ties} (hlt : ∀ a b, (a, b) ∈ ties → a < n ∧ b < n) {x : Nat} (hx : x < n) : rounds ties n x = marks ties x := by
  obtain ⟨_, g⟩ := rounds_ok hlt n
  have : goods n (marks ties) (rounds ties n) ≤ n := by
    have := List.countP_le_length (p := fun x => rounds ties n x == marks ties x) (l := List.range n)
    rw [List.length_range] at this
    exact this
  have e : goods n (marks ties) (rounds ties n) = (List.range n).length := by rw [List.length_range]; omega
  have := List.countP_eq_length.1 e x (List.mem_range.2 hx)
  simpa using this

theorem nodup_sub_len {α : Type} [DecidableEq α] : ∀ {l m : List α}, l.Nodup → (∀ x ∈ l, x ∈ m) → l.length ≤ m.length
  | [], m, _, _ => Nat.zero_le _
  | a :: r, m, hn, hs => by
    rw [List.nodup_cons] at hn
    have ha : a ∈ m := hs a List.mem_cons_self
    have ih := nodup_sub_len (l := r) (m := m.erase a) hn.2 fun x hx => by
      have hxa : x ≠ a := fun e => hn.1 (e ▸ hx)
      exact (List.mem_erase_of_ne hxa).2 (hs x (List.mem_cons_of_mem _ hx))
    rw [List.length_erase_of_mem ha] at ih
    have : 0 < m.length := List.length_pos_of_mem ha
    rw [List.length_cons]
    omega

/-- how many unlike marks there are at the end -/
theorem heaps_count {n : Nat} {ties : Ties} (hlt : ∀ a b, (a, b) ∈ ties → a < n ∧ b < n) {out : List Int} (hn : out.Nodup)
    (hm : ∀ k, k ∈ out ↔ k ∈ (List.range n).map (fun x => (rounds ties n x : Int))) : out.length = heaps n (marks ties) := by
  have k := marks_ok ties
  have hF : (((List.range n).filter (fun x => marks ties x == x)).map (fun x : Nat => (x : Int))).Nodup := by
    rw [List.nodup_iff_pairwise_ne, List.pairwise_map]
    refine List.Pairwise.imp (R := fun a b => a ≠ b) (fun {a b} h e => h (Int.ofNat.inj (show (a : Int) = (b : Int) from e))) ?_
    exact List.nodup_iff_pairwise_ne.1 (List.Nodup.sublist List.filter_sublist List.nodup_range)
  have hmem : ∀ z, z ∈ out ↔ z ∈ ((List.range n).filter (fun x => marks ties x == x)).map (fun x : Nat => (x : Int)) := by
    intro z
    rw [hm z, List.mem_map, List.mem_map]
    constructor
    · rintro ⟨x, hx, rfl⟩
      have hx' := List.mem_range.1 hx
      rw [rounds_marks hlt hx']
      refine ⟨marks ties x, ?_, rfl⟩
      rw [List.mem_filter, List.mem_range, beq_iff_eq]
      exact ⟨by have := k.le x; omega, k.fix x⟩
    · rintro ⟨x, hx, rfl⟩
      rw [List.mem_filter, beq_iff_eq] at hx
      refine ⟨x, hx.1, ?_⟩
      rw [rounds_marks hlt (List.mem_range.1 hx.1), hx.2]
  have l1 := nodup_sub_len hn fun z hz => (hmem z).1 hz
  have l2 := nodup_sub_len hF fun z hz => (hmem z).2 hz
  rw [List.length_map] at l1 l2
  unfold heaps
  rw [List.countP_eq_length_filter]
  omega
end Bw
/-! ### M6 -/
namespace Bw

inductive Path (A : Adj) (T : Nat → Prop) (x : Nat) : Nat → Prop
  | base {y : Nat} : A x y = true → Path A T x y
  | snoc {z y : Nat} : Path A T x z → T z → A z y = true → Path A T x y

theorem Path.mono {A : Adj} {T T' : Nat → Prop} (h : ∀ z, T z → T' z) {x y : Nat} (p : Path A T x y) : Path A T' x y := by
  induction p with
  | base e => exact .base e
  | snoc _ hz e ih => exact .snoc ih (h _ hz) e

theorem Path.trans {A : Adj} {T : Nat → Prop} {x v y : Nat} (p : Path A T x v) (hv : T v) (q : Path A T v y) : Path A T x y := by
  induction q with
  | base e => exact .snoc p hv e
  | snoc _ hz e ih => exact .snoc ih hz e

theorem Path.split {A : Adj} {L : List Nat} {v x y : Nat} (p : Path A (fun z => z ∈ v :: L) x y) : Path A (· ∈ L) x y ∨ (Path A (· ∈ L) x v ∧ Path A (· ∈ L) v y) := by
  induction p with
  | base e => exact .inl (.base e)
  | @snoc z y p hz e ih =>
    rcases List.mem_cons.1 hz with rfl | hz
    · rcases ih with ih | ih
      · exact .inr ⟨ih, .base e⟩
      · exact .inr ⟨ih.1, .base e⟩
    · rcases ih with ih | ih
      · exact .inl (.snoc ih hz e)
      · exact .inr ⟨ih.1, .snoc ih.2 hz e⟩

/-- the graph behind the places of a list were taken out, the last first -/
def elims (A : Adj) : List Nat → Adj
  | [] => A
  | v :: L => elim (elims A L) v

theorem elims_sym {A : Adj} (h : Sym A) : ∀ L, Sym (elims A L)
  | [] => h
  | v :: L => elim_sym (elims_sym h L) v
theorem elims_irr {A : Adj} (h : Irr A) : ∀ L, Irr (elims A L)
  | [] => h
  | v :: L => elim_irr _ v

theorem elims_iff {A : Adj} (hi : Irr A) : ∀ {L : List Nat}, L.Nodup → ∀ {x y : Nat}, elims A L x y = true ↔ x ∉ L ∧ y ∉ L ∧ x ≠ y ∧ Path A (· ∈ L) x y
  | [], _, x, y => by
    constructor
    · intro h
      have h' : A x y = true := h
      refine ⟨List.not_mem_nil, List.not_mem_nil, fun e => ?_, .base h'⟩
      rw [e, hi] at h'
      cases h'
    · rintro ⟨_, _, _, p⟩
      cases p with
      | base e => exact e
      | snoc _ h _ => cases h
  | v :: L, hn, x, y => by
    rw [List.nodup_cons] at hn
    have ih := fun {x y : Nat} => elims_iff hi hn.2 (x := x) (y := y)
    have e : elims A (v :: L) x y = (x != y && x != v && y != v && (elims A L x y || (elims A L x v && elims A L v y))) := rfl
    rw [e]
    simp only [Bool.and_eq_true, Bool.or_eq_true, bne_iff_ne, ih, List.mem_cons, not_or]
    constructor
    · rintro ⟨⟨⟨h1, h2⟩, h3⟩, h4⟩
      rcases h4 with h4 | h4
      · exact ⟨⟨h2, h4.1⟩, ⟨h3, h4.2.1⟩, h1, h4.2.2.2.mono fun z hz => .inr hz⟩
      · exact ⟨⟨h2, h4.1.1⟩, ⟨h3, h4.2.2.1⟩, h1, (h4.1.2.2.2.mono fun z hz => .inr hz).trans (.inl rfl) (h4.2.2.2.2.mono fun z hz => .inr hz)⟩
    · rintro ⟨⟨h2, hx⟩, ⟨h3, hy⟩, h1, p⟩
      refine ⟨⟨⟨h1, h2⟩, h3⟩, ?_⟩
      have p' : Path A (fun z => z ∈ v :: L) x y := p.mono fun z hz => List.mem_cons.2 hz
      rcases p'.split with q | q
      · exact .inl ⟨hx, hy, h1, q⟩
      · exact .inr ⟨⟨hx, hn.1, h2, q.1⟩, ⟨hn.1, hy, Ne.symm h3, q.2⟩⟩

/-- the places of the list (the last first) were taken out, each with at most w later places -/
inductive Out (w : Nat) (A : Adj) (S : List Nat) : List Nat → Prop
  | nil : Out w A S []
  | cons {v : Nat} {L : List Nat} : Out w A S L → v ∈ S → v ∉ L → deg (elims A L) S v ≤ w → Out w A S (v :: L)

theorem Out.nodup {w : Nat} {A : Adj} {S L : List Nat} (h : Out w A S L) : L.Nodup := by
  induction h with
  | nil => exact List.nodup_nil
  | cons _ _ hv _ ih => exact List.nodup_cons.2 ⟨hv, ih⟩
theorem Out.sub {w : Nat} {A : Adj} {S L : List Nat} (h : Out w A S L) : ∀ x ∈ L, x ∈ S := by
  induction h with
  | nil => intro x hx; cases hx
  | cons _ hv _ _ ih =>
    intro x hx
    rcases List.mem_cons.1 hx with rfl | hx
    · exact hv
    · exact ih x hx

def rest (S L : List Nat) : List Nat := S.filter (fun x => !L.contains x)
theorem mem_rest {S L : List Nat} {x : Nat} : x ∈ rest S L ↔ x ∈ S ∧ x ∉ L := by
  simp [rest]
theorem rest_cons (S L : List Nat) (v : Nat) : rem (rest S L) v = rest S (v :: L) := by
  unfold rem rest
  rw [List.filter_filter]
  congr 1
  funext x
  rw [Bool.eq_iff_iff]
  simp
  
theorem deg_rest {A : Adj} (hi : Irr A) {S L : List Nat} (hL : L.Nodup) (v : Nat) : deg (elims A L) (rest S L) v = deg (elims A L) S v := by
  unfold deg rest
  rw [List.countP_filter]
  refine List.countP_congr fun x _ => ?_
  simp only [Bool.and_eq_true, Bool.not_eq_true', List.contains_eq_mem, decide_eq_false_iff_not]
  constructor
  · exact fun h => h.1
  · exact fun h => ⟨h, ((elims_iff hi hL).1 h).2.1⟩

theorem Out.el {w : Nat} {A : Adj} {S L : List Nat} (hi : Irr A) (h : Out w A S L) : El w (elims A L) (rest S L) → El w A S := by
  induction h with
  | nil =>
    intro h
    have : rest S [] = S := by simp [rest]
    rw [this] at h
    exact h
  | @cons v L hO hv hn d ih =>
    intro h
    refine ih (.step v (mem_rest.2 ⟨hv, hn⟩) ?_ ?_)
    · rw [deg_rest hi hO.nodup]; exact d
    · rw [rest_cons]; exact h

theorem El.out {w : Nat} {A : Adj} {S : List Nat} (hi : Irr A) : ∀ {B : Adj} {R : List Nat}, El w B R → ∀ L, Out w A S L → B = elims A L → R = rest S L → ∃ L', Out w A S L' ∧ ∀ x ∈ S, x ∈ L' := by
  intro B R h
  induction h with
  | nil B =>
    intro L hL _ hR
    refine ⟨L, hL, fun x hx => ?_⟩
    refine Classical.byContradiction fun q => ?_
    have : x ∈ rest S L := mem_rest.2 ⟨hx, q⟩
    rw [← hR] at this
    cases this
  | @step B R v hv dv _ ih =>
    intro L hL hB hR
    subst hB hR
    have hv' := mem_rest.1 hv
    refine ih (v :: L) (.cons hL hv'.1 hv'.2 ?_) rfl (rest_cons S L v)
    rw [← deg_rest hi hL.nodup]
    exact dv

/-- the set can be taken out, ahead of all others, none with more than w later places -/
def P (w : Nat) (A : Adj) (S : List Nat) (T : Nat → Bool) : Prop := ∃ L, Out w A S L ∧ ∀ x, x ∈ L ↔ T x = true

theorem P.all {w : Nat} {A : Adj} {S : List Nat} (hi : Irr A) {T : Nat → Bool} (hT : ∀ x, T x = true ↔ x ∈ S) : P w A S T ↔ El w A S := by
  constructor
  · rintro ⟨L, hL, e⟩
    refine hL.el hi ?_
    have : rest S L = [] := by
      rw [List.eq_nil_iff_forall_not_mem]
      intro x hx
      rw [mem_rest] at hx
      exact hx.2 ((e x).2 ((hT x).2 hx.1))
    rw [this]
    exact .nil _
  · intro h
    have e : rest S [] = S := by simp [rest]
    obtain ⟨L, hL, c⟩ := El.out (A := A) (S := S) hi h [] .nil rfl e.symm
    exact ⟨L, hL, fun x => by rw [hT]; exact ⟨hL.sub x, c x⟩⟩

theorem P.empty {w : Nat} {A : Adj} {S : List Nat} {T : Nat → Bool} (hT : ∀ x, T x = false) : P w A S T :=
  ⟨[], .nil, fun x => by simp [hT]⟩

/-- two parts without ties between them -/
theorem P.two {w : Nat} {A : Adj} {S : List Nat} (hs : Sym A) (hi : Irr A) {T C D : Nat → Bool} (hT : ∀ x, T x = (C x || D x)) (hd : ∀ x, C x = true → D x = true → False)
    (ha : ∀ x y, C x = true → D y = true → A x y = false) : P w A S T ↔ P w A S C ∧ P w A S D := by
  have pick : ∀ (C D T : Nat → Bool), (∀ x, T x = (C x || D x)) → (∀ x, C x = true → D x = true → False) → (∀ x y, C x = true → D y = true → A x y = false) → P w A S T → P w A S C := by
    intro C D T hT hd ha
    rintro ⟨L, hL, e⟩
    have key : ∀ L, Out w A S L → (∀ x ∈ L, T x = true) → Out w A S (L.filter C) := by
      intro L hL
      induction hL with
      | nil => intro _; exact .nil
      | @cons v L hO hv hn d ih =>
        intro hsub
        have hO' := ih fun x hx => hsub x (List.mem_cons_of_mem _ hx)
        cases hc : C v with
        | false =>
          rw [List.filter_cons_of_neg (by rw [hc]; exact Bool.false_ne_true)]
          exact hO'
        | true =>
          rw [List.filter_cons_of_pos hc]
          refine .cons hO' hv (fun q => hn (List.mem_filter.1 q).1) (Nat.le_trans (countP_le_of_imp fun u _ hu => ?_) d)
          rw [elims_iff hi hO'.nodup] at hu
          rw [elims_iff hi hO.nodup]
          obtain ⟨h1, h2, h3, p⟩ := hu
          refine ⟨hn, fun q => ?_, h3, p.mono fun z hz => (List.mem_filter.1 hz).1⟩
          -- u lies in L: then in C, for it is tied with one of C
          have hu' : ∃ z, C z = true ∧ A z u = true := by
            cases p with
            | base e => exact ⟨v, hc, e⟩
            | snoc _ hz e => exact ⟨_, (List.mem_filter.1 hz).2, e⟩
          obtain ⟨z, hz, hzu⟩ := hu'
          have hTu := hsub u (List.mem_cons_of_mem _ q)
          rw [hT, Bool.or_eq_true] at hTu
          rcases hTu with h | h
          · exact h2 (List.mem_filter.2 ⟨q, h⟩)
          · rw [ha z u hz h] at hzu; cases hzu
    refine ⟨L.filter C, key L hL fun x hx => (e x).1 hx, fun x => ?_⟩
    rw [List.mem_filter, e, hT]
    constructor
    · exact fun h => h.2
    · exact fun h => ⟨by rw [h]; rfl, h⟩
  constructor
  · intro h
    refine ⟨pick C D T hT hd ha h, pick D C T (fun x => by rw [hT, Bool.or_comm]) (fun x a b => hd x b a) (fun x y a b => by rw [hs]; exact ha y x b a) h⟩
  · rintro ⟨⟨LC, hC, eC⟩, ⟨LD, hD, eD⟩⟩
    have key : ∀ L, Out w A S L → (∀ x ∈ L, D x = true) → Out w A S (L ++ LC) := by
      intro L hL
      induction hL with
      | nil => intro _; exact hC
      | @cons v L hO hv hn d ih =>
        intro hsub
        have hO' := ih fun x hx => hsub x (List.mem_cons_of_mem _ hx)
        have hDv := hsub v List.mem_cons_self
        have hvC : v ∉ LC := fun q => hd v ((eC v).1 q) hDv
        refine .cons hO' hv (fun q => (List.mem_append.1 q).elim hn hvC) (Nat.le_trans (countP_le_of_imp fun u _ hu => ?_) d)
        have hu := (elims_iff hi hO'.nodup).1 hu
        rw [elims_iff hi hO.nodup]
        obtain ⟨h1, h2, h3, p⟩ := hu
        have q : ∀ y, Path A (· ∈ L ++ LC) v y → Path A (· ∈ L) v y := by
          intro y p
          induction p with
          | base e => exact .base e
          | @snoc z y p hz e ih2 =>
            rcases List.mem_append.1 hz with hz | hz
            · exact .snoc ih2 hz e
            · exfalso
              have hCz := (eC z).1 hz
              have : ∃ t, D t = true ∧ A t z = true := by
                cases ih2 with
                | base e => exact ⟨v, hDv, e⟩
                | snoc _ ht e => exact ⟨_, hsub _ (List.mem_cons_of_mem _ ht), e⟩
              obtain ⟨t, ht, htz⟩ := this
              rw [hs, ha z t hCz ht] at htz
              cases htz
        exact ⟨hn, fun h => h2 (List.mem_append_left _ h), h3, q u p⟩
    refine ⟨LD ++ LC, key LD hD fun x hx => (eD x).1 hx, fun x => ?_⟩
    rw [List.mem_append, eC, eD, hT, Bool.or_eq_true]
    exact Or.comm

/-- joined: whatever holds a place of it and is closed within it holds all -/
def Joined (A : Adj) (T : Nat → Bool) (v : Nat) : Prop := ∀ X : Nat → Bool, X v = true → (∀ x y, T x = true → T y = true → X x = true → A x y = true → X y = true) → ∀ x, T x = true → X x = true

theorem Joined.from {A : Adj} (hs : Sym A) {T : Nat → Bool} {v u : Nat} (hv : T v = true) (hu : T u = true) (h : Joined A T v) : Joined A T u := by
  intro X hX hc x hx
  by_cases hXv : X v = true
  · exact h X hXv hc x hx
  · exfalso
    have := h (fun z => !X z) (by simpa using hXv) (fun a b ha hb hXa hab => by
      simp only [Bool.not_eq_true'] at hXa ⊢
      cases e : X b with
      | false => rfl
      | true =>
        have := hc b a hb ha e (by rw [hs]; exact hab)
        rw [this] at hXa
        cases hXa) u hu
    rw [hX] at this
    cases this

/-- the rim of a set within S -/
def rimC (A : Adj) (S : List Nat) (T : Nat → Bool) (r : Nat → Bool) : Prop := ∀ u ∈ S, r u = true ↔ T u = false ∧ ∃ t, T t = true ∧ A t u = true

theorem P.one {w : Nat} {A : Adj} {S : List Nat} (hs : Sym A) (hi : Irr A) {T r : Nat → Bool} {v0 : Nat} (h0 : T v0 = true) (hTS : ∀ x, T x = true → x ∈ S) (hj : Joined A T v0) (hr : rimC A S T r) :
    P w A S T ↔ (∃ v, T v = true ∧ P w A S (fun x => T x && x != v)) ∧ S.countP r ≤ w := by
  constructor
  · rintro ⟨L, hL, e⟩
    cases hL with
    | nil => have := (e v0).2 h0; cases this
    | @cons v L hO hv hn d =>
      have hv' := (e v).1 List.mem_cons_self
      refine ⟨⟨v, hv', L, hO, fun x => ?_⟩, Nat.le_trans (countP_le_of_imp fun u hu hur => ?_) d⟩
      · have ex := e x
        rw [List.mem_cons] at ex
        simp only [Bool.and_eq_true, bne_iff_ne, ← ex]
        constructor
        · exact fun h => ⟨.inr h, fun q => hn (q ▸ h)⟩
        · rintro ⟨h | h, q⟩
          · exact absurd h q
          · exact h
      · obtain ⟨hTu, t, ht, htu⟩ := (hr u hu).1 hur
        rw [elims_iff hi hO.nodup]
        have huL : u ∉ v :: L := fun q => by rw [(e u).1 q] at hTu; cases hTu
        rw [List.mem_cons, not_or] at huL
        refine ⟨hn, huL.2, Ne.symm huL.1, ?_⟩
        have hjv := Joined.from hs h0 hv' hj
        have hall : ∀ x, T x = true → x = v ∨ Path A (· ∈ L) v x := by
          intro x hx
          have dec : ∀ x, Decidable (x = v ∨ Path A (· ∈ L) v x) := fun x => Classical.propDecidable _
          have := hjv (fun x => @decide (x = v ∨ Path A (· ∈ L) v x) (dec x)) (decide_eq_true (.inl rfl)) (fun a b ha hb hXa hab => by
            refine decide_eq_true ?_
            have hXa' := of_decide_eq_true hXa
            by_cases hbv : b = v
            · exact .inl hbv
            · refine .inr ?_
              by_cases hav : a = v
              · rw [hav] at hab; exact .base hab
              · have haL : a ∈ L := ((List.mem_cons.1 ((e a).2 ha)).resolve_left hav)
                exact .snoc (hXa'.resolve_left hav) haL hab) x hx
          exact of_decide_eq_true this
        rcases hall t ht with h | h
        · rw [h] at htu; exact .base htu
        · by_cases htv : t = v
          · rw [htv] at htu; exact .base htu
          · exact .snoc h ((List.mem_cons.1 ((e t).2 ht)).resolve_left htv) htu
  · rintro ⟨⟨v, hv, L, hO, e⟩, hc⟩
    have e' : ∀ x, x ∈ L ↔ T x = true ∧ x ≠ v := fun x => by
      rw [e]
      simp only [Bool.and_eq_true, bne_iff_ne]
    have hn : v ∉ L := fun q => ((e' v).1 q).2 rfl
    refine ⟨v :: L, .cons hO (hTS v hv) hn (Nat.le_trans (countP_le_of_imp fun u hu h => ?_) hc), fun x => ?_⟩
    · rw [elims_iff hi hO.nodup] at h
      obtain ⟨_, h2, h3, p⟩ := h
      rw [hr u hu]
      refine ⟨?_, ?_⟩
      · cases hTu : T u with
        | false => rfl
        | true => exact absurd ((e' u).2 ⟨hTu, Ne.symm h3⟩) h2
      · cases p with
        | base q => exact ⟨v, hv, q⟩
        | snoc _ hz q => exact ⟨_, ((e' _).1 hz).1, q⟩
    · rw [List.mem_cons, e']
      constructor
      · rintro (h | h)
        · rw [h]; exact hv
        · exact h.1
      · intro h
        by_cases q : x = v
        · exact .inl q
        · exact .inr ⟨h, q⟩
end Bw
/-! ### M7 -/
namespace Bw

theorem add_bits : ∀ (x a b : Nat), (∀ x, a.testBit x = true → b.testBit x = false) → (a + b).testBit x = (a.testBit x || b.testBit x)
  | 0, a, b, h => by
    have h0 := h 0
    simp only [Nat.testBit_zero, decide_eq_true_eq, decide_eq_false_iff_not] at h0 ⊢
    rw [Bool.eq_iff_iff]
    simp only [Bool.or_eq_true, decide_eq_true_eq]
    omega
  | x + 1, a, b, h => by
    have h0 := h 0
    simp only [Nat.testBit_zero, decide_eq_true_eq, decide_eq_false_iff_not] at h0
    rw [Nat.testBit_succ, Nat.testBit_succ, Nat.testBit_succ]
    have e : (a + b) / 2 = a / 2 + b / 2 := by omega
    rw [e]
    refine add_bits x (a / 2) (b / 2) fun y hy => ?_
    have := h (y + 1)
    rw [Nat.testBit_succ, Nat.testBit_succ] at this
    exact this hy

theorem sub_add_xor {p m : Nat} (h : ∀ x, p.testBit x = true → m.testBit x = true) : p + (m ^^^ p) = m := by
  apply Nat.eq_of_testBit_eq
  intro x
  rw [add_bits x p (m ^^^ p) fun y hy => by rw [Nat.testBit_xor, hy, h y hy]; rfl]
  rw [Nat.testBit_xor]
  have := h x
  cases e1 : p.testBit x <;> cases e2 : m.testBit x <;> simp_all

theorem bits_le {p m : Nat} (h : ∀ x, p.testBit x = true → m.testBit x = true) : p ≤ m := by
  have := sub_add_xor h
  omega

theorem sub_bits {p m : Nat} (h : ∀ x, p.testBit x = true → m.testBit x = true) (x : Nat) : (m - p).testBit x = (m.testBit x && !p.testBit x) := by
  have e := sub_add_xor h
  have e2 : m - p = m ^^^ p := by omega
  rw [e2, Nat.testBit_xor]
  have := h x
  cases e1 : p.testBit x <;> cases e2 : m.testBit x <;> simp_all

theorem bit_of (v x : Nat) : (2 ^ v).testBit x = decide (v = x) := Nat.testBit_two_pow

theorem sub_bit {m v : Nat} (hv : m.testBit v = true) (x : Nat) : (m - 2 ^ v).testBit x = (m.testBit x && x != v) := by
  rw [sub_bits (fun y hy => by rw [bit_of, decide_eq_true_eq] at hy; rw [← hy]; exact hv), bit_of]
  by_cases e : v = x
  · subst e; simp
  · have e' : ¬ x = v := fun q => e q.symm
    simp [e, e']

theorem sub_bit_lt {m v : Nat} (hv : m.testBit v = true) : m - 2 ^ v < m := by
  have : 2 ^ v ≤ m := Nat.ge_two_pow_of_testBit hv
  have : 0 < 2 ^ v := Nat.two_pow_pos v
  omega
theorem two_pow_le {m v : Nat} (hv : m.testBit v = true) : 2 ^ v ≤ m := Nat.ge_two_pow_of_testBit hv

theorem add_bit {m v : Nat} (hv : m.testBit v = false) (x : Nat) : (m + 2 ^ v).testBit x = (m.testBit x || decide (x = v)) := by
  rw [add_bits x m (2 ^ v) (fun y hy => by
    rw [bit_of]
    refine decide_eq_false fun q => ?_
    rw [← q, hv] at hy; cases hy), bit_of]
  congr 1
  rw [Bool.eq_iff_iff]
  simp only [decide_eq_true_eq]
  exact eq_comm

theorem lt_of_bits {m n : Nat} (h : ∀ x, m.testBit x = true → x < n) : m < 2 ^ n := by
  refine Nat.lt_pow_two_of_testBit m fun i hi => ?_
  cases e : m.testBit i with
  | false => rfl
  | true => have := h i e; omega
theorem bit_lt {m n x : Nat} (hm : m < 2 ^ n) (hx : m.testBit x = true) : x < n := by
  refine Classical.byContradiction fun q => ?_
  have : m.testBit x = false := Nat.testBit_lt_two_pow (Nat.lt_of_lt_of_le hm (Nat.pow_le_pow_right (by decide) (by omega)))
  rw [this] at hx; cases hx

/-- the set with a number -/
abbrev bits (m : Nat) : Nat → Bool := fun x => m.testBit x

/-- what a cost means -/
def CSpec (A : Adj) (S : List Nat) (m : Nat) (c : Int) : Prop := -1 ≤ c ∧ ∀ w : Nat, c ≤ (w : Int) ↔ P w A S (bits m)

theorem CSpec.zero (A : Adj) (S : List Nat) : CSpec A S 0 (-1) :=
  ⟨Int.le_refl _, fun w => ⟨fun _ => P.empty fun x => Nat.zero_testBit x, fun _ => by omega⟩⟩

/-- the piece of a set: p, from its place v -/
structure Piece (A : Adj) (m v p : Nat) : Prop where
  sub : ∀ x, p.testBit x = true → m.testBit x = true
  has : p.testBit v = true
  closed : ∀ x y, p.testBit x = true → m.testBit y = true → A x y = true → p.testBit y = true
  least : ∀ X : Nat → Bool, X v = true → (∀ x y, m.testBit x = true → m.testBit y = true → X x = true → A x y = true → X y = true) → ∀ x, p.testBit x = true → X x = true

theorem CSpec.whole {A : Adj} {n m v0 : Nat} {r : Nat → Bool} {best : Int} (hs : Sym A) (hi : Irr A) (hm : m < 2 ^ n) (hp : Piece A m v0 m) (hr : rimC A (List.range n) (bits m) r)
    (h1 : ∃ v, m.testBit v = true ∧ CSpec A (List.range n) (m - 2 ^ v) best)
    (h2 : ∀ v, m.testBit v = true → ∃ c, CSpec A (List.range n) (m - 2 ^ v) c ∧ best ≤ c) :
    CSpec A (List.range n) m (max best ((List.range n).countP r)) := by
  refine ⟨?_, fun w => ?_⟩
  · obtain ⟨v, _, hb⟩ := h1
    have := hb.1
    omega
  · have j : Joined A (bits m) v0 := hp.least
    have e := P.one (w := w) hs hi (S := List.range n) (T := bits m) (r := r) hp.has (fun x hx => List.mem_range.2 (bit_lt hm hx)) j hr
    rw [e]
    have ev : ∀ v, m.testBit v = true → (fun x => bits m x && x != v) = bits (m - 2 ^ v) := fun v hv => by
      funext x
      exact (sub_bit hv x).symm
    have e1 : best ≤ (w : Int) ↔ ∃ v, bits m v = true ∧ P w A (List.range n) (fun x => bits m x && x != v) := by
      constructor
      · intro h
        obtain ⟨v, hv, hb⟩ := h1
        exact ⟨v, hv, by rw [ev v hv]; exact (hb.2 w).1 h⟩
      · rintro ⟨v, hv, hP⟩
        obtain ⟨c, hc, hle⟩ := h2 v hv
        rw [ev v hv] at hP
        have := (hc.2 w).2 hP
        omega
    rw [← e1]
    omega

theorem CSpec.parts {A : Adj} {n m v0 p : Nat} {c d : Int} (hs : Sym A) (hi : Irr A) (hp : Piece A m v0 p) (h1 : CSpec A (List.range n) p c) (h2 : CSpec A (List.range n) (m - p) d) :
    CSpec A (List.range n) m (max c d) := by
  refine ⟨by have := h1.1; omega, fun w => ?_⟩
  have e := P.two (w := w) (S := List.range n) hs hi (T := bits m) (C := bits p) (D := bits (m - p)) (fun x => ?_) (fun x a b => ?_) (fun x y a b => ?_)
  · rw [e, ← h1.2 w, ← h2.2 w]
    omega
  · show m.testBit x = (p.testBit x || (m - p).testBit x)
    rw [sub_bits hp.sub]
    have := hp.sub x
    cases e1 : p.testBit x <;> cases e2 : m.testBit x <;> simp_all
  · have b' : (m - p).testBit x = true := b
    rw [sub_bits hp.sub] at b'
    have a' : p.testBit x = true := a
    rw [a'] at b'
    simp at b'
  · have b' : (m - p).testBit y = true := b
    rw [sub_bits hp.sub, Bool.and_eq_true] at b'
    cases h : A x y with
    | false => rfl
    | true =>
      have := hp.closed x y a b'.1 h
      rw [this] at b'
      simp at b'

/-- at the end -/
theorem CSpec.last {A : Adj} {n : Nat} {c : Int} (hi : Irr A) (h : CSpec A (List.range n) (2 ^ n - 1) c) (w : Nat) : c ≤ (w : Int) ↔ El w A (List.range n) := by
  rw [h.2 w, P.all hi]
  intro x
  show (2 ^ n - 1).testBit x = true ↔ _
  rw [Nat.testBit_two_pow_sub_one, decide_eq_true_eq, List.mem_range]

/-- the table of what is tied with a set -/
def TabOk (A : Adj) (n : Nat) (tab : List Nat) : Prop := tab.length = 2 ^ n ∧ ∀ m t : Nat, tab[m]? = some t → ∀ u, t.testBit u = true ↔ ∃ x, m.testBit x = true ∧ A x u = true

/-- one turn of the search for a piece -/
structure Grow (A : Adj) (m v p : Nat) : Prop where
  sub : ∀ x, p.testBit x = true → m.testBit x = true
  has : p.testBit v = true
  least : ∀ X : Nat → Bool, X v = true → (∀ x y, m.testBit x = true → m.testBit y = true → X x = true → A x y = true → X y = true) → ∀ x, p.testBit x = true → X x = true

theorem Grow.start {A : Adj} {m v : Nat} (hv : m.testBit v = true) : Grow A m v (2 ^ v) :=
  ⟨fun x hx => by rw [bit_of, decide_eq_true_eq] at hx; rw [← hx]; exact hv, by rw [bit_of]; exact decide_eq_true rfl, fun X hX _ x hx => by rw [bit_of, decide_eq_true_eq] at hx; rw [← hx]; exact hX⟩

theorem Grow.turn {A : Adj} {m v p t : Nat} (g : Grow A m v p) (ht : ∀ u, t.testBit u = true ↔ ∃ x, p.testBit x = true ∧ A x u = true) : Grow A m v (p ||| (t &&& m)) ∧ p ≤ p ||| (t &&& m) := by
  refine ⟨⟨fun x hx => ?_, ?_, fun X hX hc x hx => ?_⟩, Nat.left_le_or⟩
  · rw [Nat.testBit_or, Nat.testBit_and, Bool.or_eq_true, Bool.and_eq_true] at hx
    rcases hx with h | h
    · exact g.sub x h
    · exact h.2
  · rw [Nat.testBit_or, g.has]; rfl
  · rw [Nat.testBit_or, Nat.testBit_and, Bool.or_eq_true, Bool.and_eq_true] at hx
    rcases hx with h | h
    · exact g.least X hX hc x h
    · obtain ⟨y, hy, hyx⟩ := (ht x).1 h.1
      exact hc y x (g.sub y hy) h.2 (g.least X hX hc y hy) hyx

theorem Grow.done {A : Adj} {m v p t : Nat} (g : Grow A m v p) (ht : ∀ u, t.testBit u = true ↔ ∃ x, p.testBit x = true ∧ A x u = true) (e : p ||| (t &&& m) = p) : Piece A m v p := by
  refine ⟨g.sub, g.has, fun x y hx hy hxy => ?_, g.least⟩
  rw [← e, Nat.testBit_or, Nat.testBit_and, (ht y).2 ⟨x, hx, hxy⟩, hy]
  simp

/-- the rim's number -/
theorem rim_bits (t m x : Nat) : ((t ||| m) - m).testBit x = (t.testBit x && !m.testBit x) := by
  rw [sub_bits (fun y hy => by rw [Nat.testBit_or, hy]; simp), Nat.testBit_or]
  cases t.testBit x <;> cases m.testBit x <;> rfl

theorem rim_ok {A : Adj} {n m t : Nat} (ht : ∀ u, t.testBit u = true ↔ ∃ x, m.testBit x = true ∧ A x u = true) : rimC A (List.range n) (bits m) (bits ((t ||| m) - m)) := by
  intro u _
  show ((t ||| m) - m).testBit u = true ↔ m.testBit u = false ∧ ∃ x, m.testBit x = true ∧ A x u = true
  rw [rim_bits, Bool.and_eq_true, ht u, Bool.not_eq_true']
  exact And.comm
end Bw
/-! ### M8 -/
namespace Bw

theorem twice_get {α : Type} {L : List α} {f : α → α} {k m : Nat} {y : α} (hl : L.length = 2 ^ k) (h : (L ++ L.map f)[m]? = some y) :
    (m < 2 ^ k ∧ L[m]? = some y) ∨ ∃ m' z, m = m' + 2 ^ k ∧ m' < 2 ^ k ∧ L[m']? = some z ∧ y = f z := by
  by_cases hm : m < 2 ^ k
  · rw [List.getElem?_append_left (by omega)] at h
    exact .inl ⟨hm, h⟩
  · rw [List.getElem?_append_right (by omega), List.getElem?_map, hl] at h
    cases e : L[m - 2 ^ k]? with
    | none => rw [e] at h; cases h
    | some z =>
      rw [e] at h
      have hlt := (List.getElem?_eq_some_iff.1 e).1
      exact .inr ⟨m - 2 ^ k, z, by omega, by omega, e, (Option.some.inj h).symm⟩

theorem no_bit {m k : Nat} (h : m < 2 ^ k) : m.testBit k = false := Nat.testBit_lt_two_pow h

def SizeOk (k : Nat) (L : List Nat) : Prop := L.length = 2 ^ k ∧ ∀ m t : Nat, L[m]? = some t → t = (List.range k).countP (bits m)

theorem SizeOk.zero : SizeOk 0 [0] := ⟨rfl, fun m t h => by
  cases m with
  | zero => cases h; rfl
  | succ m => simp at h⟩

theorem SizeOk.step {k : Nat} {L : List Nat} (h : SizeOk k L) : SizeOk (k + 1) (L ++ L.map (fun t => t + 1)) := by
  refine ⟨by rw [List.length_append, List.length_map, h.1, Nat.pow_succ]; omega, fun m t ht => ?_⟩
  rw [List.range_succ, List.countP_append]
  rcases twice_get h.1 ht with ⟨hm, e⟩ | ⟨m', z, rfl, hm, e, rfl⟩
  · rw [h.2 m t e]
    have : List.countP (bits m) [k] = 0 := by
      rw [List.countP_eq_zero]
      intro x hx
      rw [List.mem_singleton] at hx
      subst hx
      show ¬ m.testBit x = true
      rw [no_bit hm]
      exact Bool.false_ne_true
    omega
  · rw [h.2 m' z e]
    have nb := no_bit hm
    have e1 : List.countP (bits (m' + 2 ^ k)) [k] = 1 := by
      have : bits (m' + 2 ^ k) k = true := by
        show (m' + 2 ^ k).testBit k = true
        rw [add_bit nb, nb]; simp
      simp [List.countP_cons, this]
    have e2 : (List.range k).countP (bits (m' + 2 ^ k)) = (List.range k).countP (bits m') := by
      refine List.countP_congr fun x hx => ?_
      rw [List.mem_range] at hx
      show (m' + 2 ^ k).testBit x = true ↔ m'.testBit x = true
      rw [add_bit nb]
      have : ¬ x = k := by omega
      simp [this]
    omega

def TabK (A : Adj) (k : Nat) (L : List Nat) : Prop := L.length = 2 ^ k ∧ ∀ m t : Nat, L[m]? = some t → ∀ u, t.testBit u = true ↔ ∃ x, m.testBit x = true ∧ A x u = true

theorem TabK.zero (A : Adj) : TabK A 0 [0] := ⟨rfl, fun m t h u => by
  cases m with
  | zero =>
    cases h
    simp
  | succ m => simp at h⟩

theorem TabK.step {A : Adj} {k N : Nat} {L : List Nat} (h : TabK A k L) (hN : ∀ u, N.testBit u = true ↔ A k u = true) : TabK A (k + 1) (L ++ L.map (fun t => t ||| N)) := by
  refine ⟨by rw [List.length_append, List.length_map, h.1, Nat.pow_succ]; omega, fun m t ht u => ?_⟩
  rcases twice_get h.1 ht with ⟨hm, e⟩ | ⟨m', z, rfl, hm, e, rfl⟩
  · exact h.2 m t e u
  · have nb := no_bit hm
    rw [Nat.testBit_or, Bool.or_eq_true, h.2 m' z e u, hN]
    constructor
    · rintro (⟨x, hx, hxu⟩ | hk)
      · exact ⟨x, by rw [add_bit nb, hx]; rfl, hxu⟩
      · exact ⟨k, by rw [add_bit nb]; simp, hk⟩
    · rintro ⟨x, hx, hxu⟩
      rw [add_bit nb, Bool.or_eq_true, decide_eq_true_eq] at hx
      rcases hx with hx | hx
      · exact .inl ⟨x, hx, hxu⟩
      · exact .inr (hx ▸ hxu)

/-- the numbers of the places tied with each, by the ties seen so far -/
def NearOk (n : Nat) (ties : Ties) (N : Nat → Nat) : Prop := ∀ x, x < n → ∀ u, (N x).testBit u = true ↔ adjT ties x u = true
theorem NearOk.nil (n : Nat) : NearOk n [] (fun _ => 0) := fun x _ u => by simp [adjT]
theorem NearOk.step {n : Nat} {ties : Ties} {a b : Nat} {N : Nat → Nat} (h : NearOk n ties N) (ok : TOk n (ties ++ [(a, b)])) :
    NearOk n (ties ++ [(a, b)]) (fun x => if x = b then N b + 2 ^ a else if x = a then N a + 2 ^ b else N x) := by
  have hab := ok.lt a b (List.mem_append_right _ List.mem_cons_self)
  have hn1 : (a, b) ∉ ties := by
    have := ok.nd
    rw [List.nodup_append] at this
    intro q
    exact this.2.2 (a, b) q (a, b) List.mem_cons_self rfl
  have hn2 : (b, a) ∉ ties := fun q => by have := ok.lt b a (List.mem_append_left _ q); omega
  have n1 : (N a).testBit b = false := by
    cases e : (N a).testBit b with
    | false => rfl
    | true =>
      have := (h a (by omega) b).1 e
      rw [adjT_iff] at this
      exact absurd this (not_or.2 ⟨hn1, hn2⟩)
  have n2 : (N b).testBit a = false := by
    cases e : (N b).testBit a with
    | false => rfl
    | true =>
      have := (h b hab.2 a).1 e
      rw [adjT_iff] at this
      exact absurd this (not_or.2 ⟨hn2, hn1⟩)
  have step : ∀ x y, adjT (ties ++ [(a, b)]) x y = true ↔ adjT ties x y = true ∨ (x = a ∧ y = b) ∨ (x = b ∧ y = a) := by
    intro x y
    rw [adjT_iff, adjT_iff]
    simp only [List.mem_append, List.mem_singleton, Prod.mk.injEq]
    constructor
    · rintro ((h | h) | (h | h))
      · exact .inl (.inl h)
      · exact .inr (.inl h)
      · exact .inl (.inr h)
      · exact .inr (.inr ⟨h.2, h.1⟩)
    · rintro ((h | h) | h | h)
      · exact .inl (.inl h)
      · exact .inr (.inl h)
      · exact .inl (.inr h)
      · exact .inr (.inr ⟨h.2, h.1⟩)
  intro x hx u
  rw [step]
  dsimp only
  by_cases e1 : x = b
  · rw [if_pos e1, add_bit n2, Bool.or_eq_true, decide_eq_true_eq, h b hab.2, ← e1]
    constructor
    · rintro (q | q)
      · exact .inl q
      · exact .inr (.inr ⟨rfl, q⟩)
    · rintro (q | q | q)
      · exact .inl q
      · omega
      · exact .inr q.2
  · rw [if_neg e1]
    by_cases e2 : x = a
    · rw [if_pos e2, add_bit n1, Bool.or_eq_true, decide_eq_true_eq, h a (by omega), ← e2]
      constructor
      · rintro (q | q)
        · exact .inl q
        · exact .inr (.inl ⟨rfl, q⟩)
      · rintro (q | q | q)
        · exact .inl q
        · exact .inr q.2
        · exact absurd q.1 e1
    · rw [if_neg e2, h x hx]
      constructor
      · exact .inl
      · rintro (q | q | q)
        · exact q
        · exact absurd q.1 e2
        · exact absurd q.1 e1
end Bw
/-! ### M9 -/
namespace Bw

/-! ### sets as rising lists -/
def Up (l : List Nat) : Prop := l.Pairwise (fun a b => a < b)
theorem Up.nodup {l : List Nat} (h : Up l) : l.Nodup := by
  rw [List.nodup_iff_pairwise_ne]
  exact List.Pairwise.imp (fun {a b} h => Nat.ne_of_lt h) h
theorem Up.filter {l : List Nat} (p : Nat → Bool) (h : Up l) : Up (l.filter p) := List.Pairwise.sublist List.filter_sublist h
theorem Up.range (n : Nat) : Up (List.range n) := List.pairwise_lt_range
theorem Up.rem {l : List Nat} (v : Nat) (h : Up l) : Up (rem l v) := h.filter _
theorem Up.nil : Up [] := List.Pairwise.nil
theorem Up.one (v : Nat) : Up [v] := List.pairwise_singleton _ _
theorem Up.ext : ∀ {l m : List Nat}, Up l → Up m → (∀ x, x ∈ l ↔ x ∈ m) → l = m
  | [], [], _, _, _ => rfl
  | [], b :: m, _, _, h => absurd ((h b).2 List.mem_cons_self) List.not_mem_nil
  | a :: l, [], _, _, h => absurd ((h a).1 List.mem_cons_self) List.not_mem_nil
  | a :: l, b :: m, hl, hm, h => by
    have hl' := List.pairwise_cons.1 hl
    have hm' := List.pairwise_cons.1 hm
    have e : a = b := by
      rcases List.mem_cons.1 ((h a).1 List.mem_cons_self) with q | q
      · exact q
      · rcases List.mem_cons.1 ((h b).2 List.mem_cons_self) with r | r
        · exact r.symm
        · have h1 := hm'.1 a q
          have h2 := hl'.1 b r
          omega
    subst e
    congr 1
    refine Up.ext hl'.2 hm'.2 fun x => ?_
    have hx := h x
    rw [List.mem_cons, List.mem_cons] at hx
    constructor
    · intro q
      rcases hx.1 (.inr q) with r | r
      · have := hl'.1 x q; omega
      · exact r
    · intro q
      rcases hx.2 (.inr q) with r | r
      · have := hm'.1 x q; omega
      · exact r

theorem Up.le_of {l : List Nat} {n : Nat} (h : Up l) (hb : ∀ x ∈ l, x < n) : l.length ≤ n := by
  have := nodup_sub_length h.nodup (m := List.range n) fun x hx => List.mem_range.2 (hb x hx)
  rw [List.length_range] at this
  exact this

/-- rising, by a sort, without twins -/
theorem Up.of_sorted {l : List Nat} (h : l.Pairwise (fun a b => a ≤ b)) (hn : l.Nodup) : Up l := by
  rw [List.nodup_iff_pairwise_ne] at hn
  exact List.Pairwise.imp (fun {a b} h => by omega) (h.and hn)

def lessL (l m : List Nat) : List Nat := l.filter (fun x => !m.contains x)
theorem mem_lessL {l m : List Nat} {x : Nat} : x ∈ lessL l m ↔ x ∈ l ∧ x ∉ m := by simp [lessL]
theorem lessL_one (l : List Nat) (v : Nat) : lessL l [v] = rem l v := by
  unfold lessL rem
  congr 1
  funext x
  rw [Bool.eq_iff_iff]
  simp
theorem nodup_joint {l m : List Nat} (hl : l.Nodup) (hm : m.Nodup) : (l ++ lessL m l).Nodup := by
  rw [List.nodup_append]
  refine ⟨hl, List.Nodup.sublist List.filter_sublist hm, fun a ha b hb e => ?_⟩
  subst e
  exact (mem_lessL.1 hb).2 ha

/-- the sorted union -/
structure IsJoint (l m r : List Nat) : Prop where
  up : Up r
  mem : ∀ x, x ∈ r ↔ x ∈ l ∨ x ∈ m

/-! ### the places left and what each is tied with -/
structure Rep (n : Nat) (f : Nat → List Nat) (S : List Nat) (A : Adj) : Prop where
  sym : Sym A
  irr : Irr A
  up : Up S
  lt : ∀ x ∈ S, x < n
  fup : ∀ x, x < n → Up (f x)
  flt : ∀ x, x < n → ∀ y ∈ f x, y < n
  eq : ∀ x ∈ S, f x = S.filter (A x)

theorem Rep.deg {n : Nat} {f : Nat → List Nat} {S : List Nat} {A : Adj} (h : Rep n f S A) {x : Nat} (hx : x ∈ S) : (f x).length = deg A S x := by
  rw [h.eq x hx]
  unfold Bw.deg
  rw [List.countP_eq_length_filter]

theorem Rep.mem {n : Nat} {f : Nat → List Nat} {S : List Nat} {A : Adj} (h : Rep n f S A) {x y : Nat} (hx : x ∈ S) : y ∈ f x ↔ y ∈ S ∧ A x y = true := by
  rw [h.eq x hx, List.mem_filter]

/-- behind v was folded away -/
def folded (f : Nat → List Nat) (A : Adj) (S : List Nat) (v : Nat) : Nat → List Nat := fun x => if x ∈ f v then (rem S v).filter (elim A v x) else f x

theorem fold_new {n : Nat} {f : Nat → List Nat} {S : List Nat} {A : Adj} (h : Rep n f S A) {v one : Nat} (hv : v ∈ S) (ho : one ∈ f v) {r : List Nat} (hr : IsJoint (f one) (f v) r) :
    lessL r [one, v] = (rem S v).filter (elim A v one) := by
  have ho' := (h.mem hv).1 ho
  refine Up.ext (hr.up.filter _) ((h.up.rem v).filter _) fun y => ?_
  rw [mem_lessL, hr.mem, h.mem ho'.1, h.mem hv, List.mem_filter, mem_rem]
  have hne : one ≠ v := fun e => by
    have := ho'.2
    rw [e, h.irr] at this; cases this
  have hov : A one v = true := by rw [h.sym]; exact ho'.2
  simp only [elim, List.mem_cons, List.not_mem_nil, or_false, not_or, Bool.and_eq_true, Bool.or_eq_true, bne_iff_ne]
  constructor
  · rintro ⟨q, q1, q2⟩
    rcases q with q | q
    · exact ⟨⟨q.1, q2⟩, ⟨⟨Ne.symm q1, hne⟩, q2⟩, .inl q.2⟩
    · exact ⟨⟨q.1, q2⟩, ⟨⟨Ne.symm q1, hne⟩, q2⟩, .inr ⟨hov, q.2⟩⟩
  · rintro ⟨⟨q1, q2⟩, ⟨⟨q3, _⟩, _⟩, q⟩
    refine ⟨?_, Ne.symm q3, q2⟩
    rcases q with q | q
    · exact .inl ⟨q1, q⟩
    · exact .inr ⟨q1, q.2⟩

theorem Rep.fold {n : Nat} {f : Nat → List Nat} {S : List Nat} {A : Adj} (h : Rep n f S A) {v : Nat} (hv : v ∈ S) : Rep n (folded f A S v) (rem S v) (elim A v) where
  sym := elim_sym h.sym v
  irr := elim_irr A v
  up := h.up.rem v
  lt := fun x hx => h.lt x (mem_rem.1 hx).1
  fup := fun x hx => by
    unfold folded
    split
    · exact (h.up.rem v).filter _
    · exact h.fup x hx
  flt := fun x hx y hy => by
    unfold folded at hy
    split at hy
    · exact h.lt y (mem_rem.1 (List.mem_filter.1 hy).1).1
    · exact h.flt x hx y hy
  eq := fun x hx => by
    have hx' := mem_rem.1 hx
    unfold folded
    by_cases c : x ∈ f v
    · rw [if_pos c]
    · rw [if_neg c, h.eq x hx'.1]
      have hvx : A v x = false := by
        cases e : A v x with
        | false => rfl
        | true => exact absurd ((h.mem hv).2 ⟨hx'.1, e⟩) c
      have hxv : A x v = false := by rw [h.sym]; exact hvx
      refine Up.ext (h.up.filter _) ((h.up.rem v).filter _) fun y => ?_
      rw [List.mem_filter, List.mem_filter, mem_rem]
      simp only [elim, hxv, Bool.false_and, Bool.or_false, Bool.and_eq_true, bne_iff_ne]
      constructor
      · rintro ⟨q1, q2⟩
        have n1 : y ≠ v := fun e => by rw [e, hxv] at q2; cases q2
        have n2 : x ≠ y := fun e => by rw [← e, h.irr] at q2; cases q2
        exact ⟨⟨q1, n1⟩, ⟨⟨n2, hx'.2⟩, n1⟩, q2⟩
      · rintro ⟨⟨q1, _⟩, _, q2⟩
        exact ⟨q1, q2⟩

/-- behind b was drawn into a -/
structure IsDrawn (n : Nat) (f g : Nat → List Nat) (a b : Nat) : Prop where
  up : ∀ x, x < n → Up (g x)
  at_a : ∀ y, y ∈ g a ↔ (y ∈ f a ∨ y ∈ f b) ∧ y ≠ a ∧ y ≠ b
  hit : ∀ x, x < n → x ≠ a → x ∈ f b → ∀ y, y ∈ g x ↔ (y ∈ f x ∧ y ≠ b) ∨ y = a
  other : ∀ x, x < n → x ≠ a → x ∉ f b → ∀ y, y ∈ g x ↔ y ∈ f x ∧ y ≠ b

theorem Rep.draw {n : Nat} {f g : Nat → List Nat} {S : List Nat} {A : Adj} (h : Rep n f S A) {a b : Nat} (ha : a ∈ S) (hb : b ∈ S) (hab : a ≠ b) (hg : IsDrawn n f g a b) : Rep n g (rem S b) (contr A a b) where
  sym := contr_sym h.sym a b
  irr := contr_irr A a b
  up := h.up.rem b
  lt := fun x hx => h.lt x (mem_rem.1 hx).1
  fup := hg.up
  flt := fun x hx y hy => by
    by_cases hxa : x = a
    · subst hxa
      rcases ((hg.at_a y).1 hy).1 with q | q
      · exact h.flt x hx y q
      · exact h.flt b (h.lt b hb) y q
    · by_cases hxb : x ∈ f b
      · rcases (hg.hit x hx hxa hxb y).1 hy with q | q
        · exact h.flt x hx y q.1
        · rw [q]; exact h.lt a ha
      · exact h.flt x hx y ((hg.other x hx hxa hxb y).1 hy).1
  eq := fun x hx => by
    have hx' := mem_rem.1 hx
    have hxn := h.lt x hx'.1
    refine Up.ext (hg.up x hxn) ((h.up.rem b).filter _) fun y => ?_
    rw [List.mem_filter, mem_rem]
    simp only [contr, Bool.and_eq_true, Bool.or_eq_true, bne_iff_ne, beq_iff_eq]
    by_cases hxa : x = a
    · subst hxa
      rw [hg.at_a, h.mem ha, h.mem hb]
      constructor
      · rintro ⟨q, q1, q2⟩
        rcases q with q | q
        · exact ⟨⟨q.1, q2⟩, ⟨⟨Ne.symm q1, hab⟩, q2⟩, .inl (.inl q.2)⟩
        · exact ⟨⟨q.1, q2⟩, ⟨⟨Ne.symm q1, hab⟩, q2⟩, .inl (.inr ⟨rfl, q.2⟩)⟩
      · rintro ⟨⟨q1, q2⟩, ⟨⟨q3, _⟩, _⟩, q⟩
        refine ⟨?_, Ne.symm q3, q2⟩
        rcases q with (q | q) | q
        · exact .inl ⟨q1, q⟩
        · exact .inr ⟨q1, q.2⟩
        · exact absurd q.1.symm q3
    · by_cases hxb : x ∈ f b
      · have hbx := (h.mem hb).1 hxb
        have hxb' : A x b = true := by rw [h.sym]; exact hbx.2
        rw [hg.hit x hxn hxa hxb, h.mem hx'.1]
        constructor
        · rintro (q | q)
          · have n1 : x ≠ y := fun e => by have := q.1.2; rw [← e, h.irr] at this; cases this
            exact ⟨⟨q.1.1, q.2⟩, ⟨⟨n1, hx'.2⟩, q.2⟩, .inl (.inl q.1.2)⟩
          · subst q
            exact ⟨⟨ha, hab⟩, ⟨⟨hxa, hx'.2⟩, hab⟩, .inr ⟨rfl, hxb'⟩⟩
        · rintro ⟨⟨q1, q2⟩, _, q⟩
          rcases q with (q | q) | q
          · exact .inl ⟨⟨q1, q⟩, q2⟩
          · exact absurd q.1 hxa
          · exact .inr q.1
      · have hxb' : A x b = false := by
          cases e : A x b with
          | false => rfl
          | true => exact absurd ((h.mem hb).2 ⟨hx'.1, by rw [h.sym]; exact e⟩) hxb
        rw [hg.other x hxn hxa hxb, h.mem hx'.1]
        constructor
        · rintro ⟨q1, q2⟩
          have n1 : x ≠ y := fun e => by have := q1.2; rw [← e, h.irr] at this; cases this
          exact ⟨⟨q1.1, q2⟩, ⟨⟨n1, hx'.2⟩, q2⟩, .inl (.inl q1.2)⟩
        · rintro ⟨⟨q1, q2⟩, _, q⟩
          rcases q with (q | q) | q
          · exact ⟨⟨q1, q⟩, q2⟩
          · exact absurd q.1 hxa
          · rw [hxb'] at q; exact absurd q.2 Bool.false_ne_true

/-- folding, on the way: from (f0, S0, A0) -/
structure Folds (n : Nat) (S0 : List Nat) (A0 : Adj) (f : Nat → List Nat) (S : List Nat) (A : Adj) : Prop where
  rep : Rep n f S A
  sub : ∀ x ∈ S, x ∈ S0
  same : El 2 A0 S0 ↔ El 2 A S

theorem Folds.step {n : Nat} {f : Nat → List Nat} {S0 S : List Nat} {A0 A : Adj} (h : Folds n S0 A0 f S A) {v : Nat} (hv : v ∈ S) (hd : (f v).length < 3) :
    Folds n S0 A0 (folded f A S v) (rem S v) (elim A v) where
  rep := h.rep.fold hv
  sub := fun x hx => h.sub x (mem_rem.1 hx).1
  same := h.same.trans (El.iff (Nat.le_refl 2) h.rep.sym h.rep.up.nodup hv (by have := h.rep.deg hv; omega))

theorem Folds.stop {n : Nat} {f : Nat → List Nat} {S0 S : List Nat} {A0 A : Adj} (h : Folds n S0 A0 f S A) (hd : ∀ v ∈ S, ¬ (f v).length < 3) : S = [] ↔ El 2 A0 S0 := by
  rw [h.same]
  constructor
  · intro e; rw [e]; exact .nil A
  · intro q
    exact q.stuck fun x hx => by have := hd x hx; have := h.rep.deg hx; omega

/-- a rest: nothing to fold -/
structure Rest (n : Nat) (f : Nat → List Nat) (S : List Nat) (A : Adj) : Prop where
  rep : Rep n f S A
  full : ∀ v ∈ S, 3 ≤ (f v).length

theorem Rest.size {n : Nat} {f : Nat → List Nat} {S : List Nat} {A : Adj} (h : Rest n f S A) (hne : S ≠ []) : 4 ≤ S.length := by
  cases hS : S with
  | nil => exact absurd hS hne
  | cons v r =>
    have hv : v ∈ S := by rw [hS]; exact List.mem_cons_self
    have h3 := h.full v hv
    have e : (f v).length ≤ (rem S v).length := by
      refine nodup_sub_length (h.rep.fup v (h.rep.lt v hv)).nodup fun x hx => ?_
      have hx' := (h.rep.mem hv).1 hx
      refine mem_rem.2 ⟨hx'.1, fun q => ?_⟩
      have := hx'.2
      rw [q, h.rep.irr] at this; cases this
    have el := length_rem h.rep.up.nodup hv
    rw [← hS]
    omega

/-- some two tied places of a rest of five or more can be put together that leave a rest -/
theorem Rest.more {n : Nat} {f : Nat → List Nat} {S : List Nat} {A : Adj} (h : Rest n f S A) (h5 : 5 ≤ S.length) : ∃ a b, a ∈ S ∧ b ∈ f a ∧ ¬ El 2 (contr A a b) (rem S b) := by
  obtain ⟨a, b, ha, hb, hab, hno⟩ := heart h.rep.sym h.rep.irr h.rep.up.nodup h5 fun x hx => by have := h.full x hx; have := h.rep.deg hx; omega
  exact ⟨a, b, ha, (h.rep.mem ha).2 ⟨hb, hab⟩, hno⟩
end Bw
/-! ### M10 -/
namespace Bw

/-! ### pieces -/
structure Comp (A : Adj) (P : List Nat) : Prop where
  closed : ∀ x y, x ∈ P → A x y = true → y ∈ P
  conn : ∀ X : Nat → Bool, (∀ x y, X x = true → A x y = true → X y = true) → ∀ u ∈ P, X u = true → ∀ x ∈ P, X x = true

theorem Comp.of {A : Adj} (hs : Sym A) {P : List Nat} {v : Nat} (hv : v ∈ P) (hc : ∀ x y, x ∈ P → A x y = true → y ∈ P)
    (hm : ∀ X : Nat → Bool, (∀ x y, X x = true → A x y = true → X y = true) → X v = true → ∀ x ∈ P, X x = true) : Comp A P := by
  refine ⟨hc, fun X hX u hu hXu x hx => ?_⟩
  by_cases hXv : X v = true
  · exact hm X hX hXv x hx
  · exfalso
    have := hm (fun z => !X z) (fun a b ha hab => by
      simp only [Bool.not_eq_true'] at ha ⊢
      cases e : X b with
      | false => rfl
      | true =>
        have := hX b a e (by rw [hs]; exact hab)
        rw [this] at ha
        cases ha) (by simpa using hXv) u hu
    rw [hXu] at this
    cases this

/-- the search for a piece, on the way: found, all behind the first k of it looked at -/
structure PFind (n : Nat) (A : Adj) (v : Nat) (found : List Nat) (k : Nat) : Prop where
  nd : found.Nodup
  lt : ∀ x ∈ found, x < n
  has : v ∈ found
  kl : k ≤ found.length
  least : ∀ X : Nat → Bool, (∀ x y, X x = true → A x y = true → X y = true) → X v = true → ∀ x ∈ found, X x = true
  seen : ∀ (j x : Nat), j < k → found[j]? = some x → ∀ y, A x y = true → y ∈ found

theorem PFind.start {n : Nat} {A : Adj} {v : Nat} (hv : v < n) : PFind n A v [v] 0 :=
  ⟨by simp, fun x hx => by rw [List.mem_singleton] at hx; omega, List.mem_cons_self, Nat.zero_le _, fun X _ h x hx => by rw [List.mem_singleton] at hx; rw [hx]; exact h, fun j x h => by omega⟩

theorem nodup_snoc {l : List Nat} {p : Nat} (h : l.Nodup) (hp : p ∉ l) : (l ++ [p]).Nodup := by
  rw [List.nodup_append]
  exact ⟨h, by simp, fun a ha b hb e => by rw [List.mem_singleton] at hb; exact hp (by rw [← hb, ← e]; exact ha)⟩

theorem PFind.add {n : Nat} {A : Adj} {v k s p : Nat} {found : List Nat} (h : PFind n A v found k) (hs : s ∈ found) (hsp : A s p = true) (hp : p < n) (hn : p ∉ found) : PFind n A v (found ++ [p]) k where
  nd := nodup_snoc h.nd hn
  lt := fun x hx => by
    rcases List.mem_append.1 hx with q | q
    · exact h.lt x q
    · rw [List.mem_singleton] at q; omega
  has := List.mem_append_left _ h.has
  kl := by have := h.kl; rw [List.length_append]; omega
  least := fun X hX hXv x hx => by
    rcases List.mem_append.1 hx with q | q
    · exact h.least X hX hXv x q
    · rw [List.mem_singleton] at q
      rw [q]
      exact hX s p (h.least X hX hXv s hs) hsp
  seen := fun j x hj hx y hy => by
    have := h.kl
    rw [List.getElem?_append_left (by omega)] at hx
    exact List.mem_append_left _ (h.seen j x hj hx y hy)

theorem PFind.next {n : Nat} {A : Adj} {v k s : Nat} {found : List Nat} (h : PFind n A v found k) (hs : found[k]? = some s) (hall : ∀ y, A s y = true → y ∈ found) : PFind n A v found (k + 1) where
  nd := h.nd
  lt := h.lt
  has := h.has
  kl := (List.getElem?_eq_some_iff.1 hs).1
  least := h.least
  seen := fun j x hj hx y hy => by
    by_cases e : j = k
    · subst e
      rw [hs] at hx
      cases hx
      exact hall y hy
    · exact h.seen j x (by omega) hx y hy

theorem PFind.comp {n : Nat} {A : Adj} (hs : Sym A) {v k : Nat} {found P : List Nat} (h : PFind n A v found k) (hk : found.length ≤ k) (hP : ∀ x, x ∈ P ↔ x ∈ found) : Comp A P := by
  refine Comp.of hs ((hP v).2 h.has) (fun x y hx hxy => ?_) fun X hX hv x hx => h.least X hX hv x ((hP x).1 hx)
  obtain ⟨j, hj⟩ := List.getElem?_of_mem ((hP x).1 hx)
  have hlt := (List.getElem?_eq_some_iff.1 hj).1
  exact (hP y).2 (h.seen j x (by omega) hj y hxy)

/-- the pieces, on the way -/
structure PInv (n : Nat) (A : Adj) (i : Nat) (Ps : List (List Nat)) (seen : List Nat) : Prop where
  nd : seen.Nodup
  lt : ∀ x ∈ seen, x < n
  un : ∀ x, x ∈ seen ↔ ∃ P ∈ Ps, x ∈ P
  comp : ∀ P ∈ Ps, Comp A P ∧ Up P ∧ P ≠ []
  apart : Ps.Pairwise (fun P Q => ∀ x ∈ P, x ∉ Q)
  all : ∀ x, x < i → x ∈ seen
  few : Ps.length ≤ i

theorem PInv.start (n : Nat) (A : Adj) : PInv n A 0 [] [] :=
  ⟨List.nodup_nil, fun x h => (by cases h), fun x => (by simp), fun P h => (by cases h), List.Pairwise.nil, fun x h => (by omega), Nat.le_refl _⟩

theorem PInv.skip {n : Nat} {A : Adj} {i : Nat} {Ps : List (List Nat)} {seen : List Nat} (h : PInv n A i Ps seen) (hi : i ∈ seen) : PInv n A (i + 1) Ps seen :=
  ⟨h.nd, h.lt, h.un, h.comp, h.apart, fun x hx => by
    by_cases e : x = i
    · rw [e]; exact hi
    · exact h.all x (by omega), by have := h.few; omega⟩

theorem PInv.add {n : Nat} {A : Adj} {i : Nat} {Ps : List (List Nat)} {seen P : List Nat} (h : PInv n A i Ps seen) (hi : i ∉ seen) (hP : Comp A P) (hu : Up P) (hiP : i ∈ P) (hlt : ∀ x ∈ P, x < n) :
    PInv n A (i + 1) (Ps ++ [P]) (seen ++ P) := by
  have dis : ∀ Q ∈ Ps, ∀ x ∈ Q, x ∉ P := by
    intro Q hQ x hxQ hxP
    have cQ := (h.comp Q hQ).1
    have := hP.conn (fun z => decide (z ∈ Q)) (fun a b ha hab => decide_eq_true (cQ.closed a b (of_decide_eq_true ha) hab)) x hxP (decide_eq_true hxQ) i hiP
    exact hi ((h.un i).2 ⟨Q, hQ, of_decide_eq_true this⟩)
  refine ⟨?_, fun x hx => ?_, fun x => ?_, fun Q hQ => ?_, ?_, fun x hx => ?_, by have := h.few; rw [List.length_append, List.length_singleton]; omega⟩
  · rw [List.nodup_append]
    refine ⟨h.nd, hu.nodup, fun a ha b hb e => ?_⟩
    subst e
    obtain ⟨Q, hQ, hx⟩ := (h.un a).1 ha
    exact dis Q hQ a hx hb
  · rcases List.mem_append.1 hx with q | q
    · exact h.lt x q
    · exact hlt x q
  · rw [List.mem_append, h.un]
    constructor
    · rintro (⟨Q, hQ, hx⟩ | hx)
      · exact ⟨Q, List.mem_append_left _ hQ, hx⟩
      · exact ⟨P, List.mem_append_right _ List.mem_cons_self, hx⟩
    · rintro ⟨Q, hQ, hx⟩
      rcases List.mem_append.1 hQ with q | q
      · exact .inl ⟨Q, q, hx⟩
      · rw [List.mem_singleton] at q
        exact .inr (q ▸ hx)
  · rcases List.mem_append.1 hQ with q | q
    · exact h.comp Q q
    · rw [List.mem_singleton] at q
      rw [q]
      exact ⟨hP, hu, fun e => by rw [e] at hiP; cases hiP⟩
  · rw [List.pairwise_append]
    refine ⟨h.apart, List.pairwise_singleton _ _, fun Q hQ R hR x hx => ?_⟩
    rw [List.mem_singleton] at hR
    rw [hR]
    exact dis Q hQ x hx
  · by_cases e : x = i
    · rw [e]; exact List.mem_append_right _ hiP
    · exact List.mem_append_left _ (h.all x (by omega))

/-! ### ups: chains -/
abbrev Ups := Nat → Option Nat
inductive Chain (u : Ups) : Nat → List Nat → Prop
  | top {v : Nat} : u v = none → Chain u v [v]
  | up {v w : Nat} {l : List Nat} : u v = some w → Chain u w l → Chain u v (v :: l)

theorem Chain.det {u : Ups} {v : Nat} {l m : List Nat} (h : Chain u v l) : Chain u v m → l = m := by
  induction h generalizing m with
  | top e =>
    intro k
    cases k with
    | top _ => rfl
    | up e2 _ => rw [e] at e2; cases e2
  | up e c ih =>
    intro k
    cases k with
    | top e2 => rw [e] at e2; cases e2
    | up e2 c2 =>
      rw [e] at e2
      cases e2
      rw [ih c2]

theorem Chain.head {u : Ups} {v : Nat} {l : List Nat} (h : Chain u v l) : ∃ r, l = v :: r := by
  cases h with
  | top _ => exact ⟨[], rfl⟩
  | up _ _ => exact ⟨_, rfl⟩

theorem Chain.tail {u : Ups} {v : Nat} {l : List Nat} (h : Chain u v l) : ∀ {pre : List Nat} {x : Nat} {post : List Nat}, l = pre ++ x :: post → Chain u x (x :: post) := by
  induction h with
  | @top v e =>
    intro pre x post h
    cases pre with
    | nil => injection h with h1 h2; subst h1 h2; exact .top e
    | cons a r => injection h with _ h2; cases r <;> cases h2
  | @up v w l e c ih =>
    intro pre x post h
    cases pre with
    | nil => injection h with h1 h2; subst h1 h2; exact .up e c
    | cons a r => injection h with _ h2; exact ih h2

/-- each item of a chain goes up to the next -/
theorem Chain.next {u : Ups} {v : Nat} {l pre : List Nat} {x y : Nat} {post : List Nat} (h : Chain u v l) (e : l = pre ++ x :: y :: post) : u x = some y := by
  have := h.tail e
  cases this with
  | up e2 c =>
    obtain ⟨r, hr⟩ := c.head
    injection hr with h1 _
    rw [e2, h1]

theorem Chain.last {u : Ups} {v : Nat} {l pre : List Nat} {x : Nat} (h : Chain u v l) (e : l = pre ++ [x]) : u x = none := by
  have := h.tail e
  cases this with
  | top e => exact e
  | up _ c => obtain ⟨r, hr⟩ := c.head; cases hr

/-! ### going through a piece -/
/-- seen: the first k looked at; of the k-th the ones in done, too (done is [] where all of it is still ahead) -/
structure Bfs (n : Nat) (A : Adj) (root : Nat) (u : Ups) (seen : List Nat) (k : Nat) (done : List Nat) : Prop where
  nd : seen.Nodup
  lt : ∀ x ∈ seen, x < n
  first : seen[0]? = some root
  rootU : u root = none
  kl : k ≤ seen.length
  par : ∀ (i x : Nat), seen[i]? = some x → x ≠ root → ∃ (j y : Nat), j < i ∧ seen[j]? = some y ∧ u x = some y ∧ A y x = true
  kid : ∀ x ∈ seen, ∀ y, u x = some y → (∃ j, j < k ∧ seen[j]? = some y) ∨ (seen[k]? = some y ∧ x ∈ done)
  old : ∀ (j x : Nat), j < k → seen[j]? = some x → ∀ p, A x p = true → p ∈ seen ∧ (u x = some p ∨ u p = some x)
  now : ∀ x, seen[k]? = some x → ∀ p ∈ done, p ∈ seen ∧ (u x = some p ∨ u p = some x)
  stay : ∀ X : Nat → Bool, (∀ x y, X x = true → A x y = true → X y = true) → X root = true → ∀ x ∈ seen, X x = true

theorem Bfs.start {n : Nat} {A : Adj} {root : Nat} {u : Ups} (hr : root < n) (hu : u root = none) : Bfs n A root u [root] 0 [] where
  nd := by simp
  lt := fun x hx => by rw [List.mem_singleton] at hx; omega
  first := rfl
  rootU := hu
  kl := Nat.zero_le _
  par := fun i x hx hne => by
    have := List.mem_of_getElem? hx
    rw [List.mem_singleton] at this
    exact absurd this hne
  kid := fun x hx y hy => by
    rw [List.mem_singleton] at hx
    rw [hx, hu] at hy; cases hy
  old := fun j x hj => by omega
  now := fun x _ p hp => by cases hp
  stay := fun X _ h x hx => by rw [List.mem_singleton] at hx; rw [hx]; exact h

theorem get_inj {l : List Nat} (h : l.Nodup) {i j : Nat} {x : Nat} (hi : l[i]? = some x) (hj : l[j]? = some x) : i = j := by
  obtain ⟨h1, e1⟩ := List.getElem?_eq_some_iff.1 hi
  obtain ⟨h2, e2⟩ := List.getElem?_eq_some_iff.1 hj
  exact (List.getElem?_inj h1 h).1 (hi.trans hj.symm)

/-- a new one -/
theorem Bfs.add {n : Nat} {A : Adj} {root : Nat} {u : Ups} {seen done : List Nat} {k s p : Nat} (h : Bfs n A root u seen k done) (hs : seen[k]? = some s) (hsp : A s p = true) (hp : p < n) (hn : p ∉ seen) :
    Bfs n A root (fun x => if x = p then some s else u x) (seen ++ [p]) k (done ++ [p]) := by
  have hmem : ∀ {j x : Nat}, seen[j]? = some x → x ≠ p := fun {j x} e q => hn (q ▸ List.mem_of_getElem? e)
  have hne : ∀ {x}, x ∈ seen → x ≠ p := fun {x} hx q => hn (q ▸ hx)
  have hkl : k < seen.length := (List.getElem?_eq_some_iff.1 hs).1
  have get_old : ∀ {j x : Nat}, seen[j]? = some x → (seen ++ [p])[j]? = some x := fun {j x} e => by
    rw [List.getElem?_append_left (List.getElem?_eq_some_iff.1 e).1]; exact e
  have get_new : ∀ {i x : Nat}, (seen ++ [p])[i]? = some x → seen[i]? = some x ∨ (i = seen.length ∧ x = p) := fun {i x} e => by
    by_cases q : i < seen.length
    · rw [List.getElem?_append_left q] at e; exact .inl e
    · rw [List.getElem?_append_right (by omega)] at e
      by_cases q2 : i - seen.length = 0
      · rw [q2] at e; cases e; exact .inr ⟨by omega, rfl⟩
      · have : ([p] : List Nat)[i - seen.length]? = none := List.getElem?_eq_none (by simp; omega)
        rw [this] at e; cases e
  have hroot : root ∈ seen := List.mem_of_getElem? h.first
  refine ⟨nodup_snoc h.nd hn, fun x hx => ?_, get_old h.first, ?_, by rw [List.length_append]; omega, fun i x hx hne' => ?_, fun x hx y hy => ?_, fun j x hj hx q hq => ?_, fun x hx q hq => ?_, fun X hX hr x hx => ?_⟩
  · rcases List.mem_append.1 hx with q | q
    · exact h.lt x q
    · rw [List.mem_singleton] at q; omega
  · show (if root = p then some s else u root) = none
    rw [if_neg (hne hroot)]; exact h.rootU
  · rcases get_new hx with q | ⟨q1, q2⟩
    · obtain ⟨j, y, j1, j2, j3, j4⟩ := h.par i x q hne'
      refine ⟨j, y, j1, get_old j2, ?_, j4⟩
      show (if x = p then some s else u x) = some y
      rw [if_neg (hmem q)]; exact j3
    · refine ⟨k, s, by omega, get_old hs, ?_, by rw [q2]; exact hsp⟩
      show (if x = p then some s else u x) = some s
      rw [if_pos q2]
  · by_cases e : x = p
    · have hy' : (if x = p then some s else u x) = some y := hy
      rw [if_pos e] at hy'
      cases hy'
      exact .inr ⟨get_old hs, by rw [e]; exact List.mem_append_right _ List.mem_cons_self⟩
    · have hy' : (if x = p then some s else u x) = some y := hy
      rw [if_neg e] at hy'
      have hx' : x ∈ seen := by
        rcases List.mem_append.1 hx with q | q
        · exact q
        · exact absurd (List.mem_singleton.1 q) e
      rcases h.kid x hx' y hy' with ⟨j, j1, j2⟩ | ⟨j1, j2⟩
      · exact .inl ⟨j, j1, get_old j2⟩
      · exact .inr ⟨get_old j1, List.mem_append_left _ j2⟩
  · have hx' : seen[j]? = some x := by
      rcases get_new hx with q | q
      · exact q
      · omega
    obtain ⟨o1, o2⟩ := h.old j x hj hx' q hq
    refine ⟨List.mem_append_left _ o1, ?_⟩
    show (if x = p then some s else u x) = some q ∨ (if q = p then some s else u q) = some x
    rw [if_neg (hmem hx'), if_neg (hne o1)]
    exact o2
  · have hx' : x = s := by
      rcases get_new hx with e | e
      · rw [hs] at e; cases e; rfl
      · omega
    subst hx'
    rcases List.mem_append.1 hq with q1 | q1
    · obtain ⟨o1, o2⟩ := h.now x hs q q1
      refine ⟨List.mem_append_left _ o1, ?_⟩
      show (if x = p then some x else u x) = some q ∨ (if q = p then some x else u q) = some x
      rw [if_neg (hmem hs), if_neg (hne o1)]
      exact o2
    · rw [List.mem_singleton] at q1
      refine ⟨by rw [q1]; exact List.mem_append_right _ List.mem_cons_self, .inr ?_⟩
      show (if q = p then some x else u q) = some x
      rw [if_pos q1]
  · rcases List.mem_append.1 hx with q | q
    · exact h.stay X hX hr x q
    · rw [List.mem_singleton] at q
      rw [q]
      exact hX s p (h.stay X hX hr s (List.mem_of_getElem? hs)) hsp

/-- the one from which it was come -/
theorem Bfs.back {n : Nat} {A : Adj} {root : Nat} {u : Ups} {seen done : List Nat} {k s p : Nat} (h : Bfs n A root u seen k done) (hs : seen[k]? = some s) (hp : p ∈ seen) (hu : u s = some p) : Bfs n A root u seen k (done ++ [p]) :=
  ⟨h.nd, h.lt, h.first, h.rootU, h.kl, h.par, fun x hx y hy => (h.kid x hx y hy).imp id (fun q => ⟨q.1, List.mem_append_left _ q.2⟩), h.old, fun x hx q hq => by
    rcases List.mem_append.1 hq with e | e
    · exact h.now x hx q e
    · rw [List.mem_singleton] at e
      rw [hs] at hx
      cases hx
      rw [e]
      exact ⟨hp, .inl hu⟩, h.stay⟩

/-- all around the k-th were looked at -/
theorem Bfs.next {n : Nat} {A : Adj} {root : Nat} {u : Ups} {seen done : List Nat} {k s : Nat} (h : Bfs n A root u seen k done) (hs : seen[k]? = some s) (hall : ∀ p, A s p = true → p ∈ done) : Bfs n A root u seen (k + 1) [] :=
  ⟨h.nd, h.lt, h.first, h.rootU, (List.getElem?_eq_some_iff.1 hs).1, h.par, fun x hx y hy => by
    rcases h.kid x hx y hy with ⟨j, j1, j2⟩ | ⟨j1, _⟩
    · exact .inl ⟨j, by omega, j2⟩
    · exact .inl ⟨k, by omega, j1⟩, fun j x hj hx p hp => by
    by_cases e : j = k
    · subst e
      rw [hs] at hx
      cases hx
      exact h.now s hs p (hall p hp)
    · exact h.old j x (by omega) hx p hp, fun x _ p hp => (by cases hp), h.stay⟩

def NoCore (n : Nat) (A : Adj) (x : Nat) : Prop := ∀ C : List Nat, C.Nodup → (∀ y ∈ C, y < n) → x ∈ C → ∃ v ∈ C, deg A C v ≤ 1

/-- a last one -/
theorem last_in {seen C : List Nat} : ∀ (m : Nat), (∃ (i x : Nat), i < m ∧ seen[i]? = some x ∧ x ∈ C) → ∃ (i x : Nat), seen[i]? = some x ∧ x ∈ C ∧ ∀ (j y : Nat), i < j → j < m → seen[j]? = some y → y ∉ C
  | 0, ⟨i, x, h, _⟩ => by omega
  | m + 1, ⟨i, x, h, hx, hC⟩ => by
    by_cases e : ∃ y, seen[m]? = some y ∧ y ∈ C
    · obtain ⟨y, hy, hyC⟩ := e
      exact ⟨m, y, hy, hyC, fun j z h1 h2 => by omega⟩
    · have hi : i < m := by
        have : i ≠ m := fun q => e ⟨x, by rw [← q]; exact hx, hC⟩
        omega
      obtain ⟨i', x', h1, h2, h3⟩ := last_in m ⟨i, x, hi, hx, hC⟩
      refine ⟨i', x', h1, h2, fun j y hj hjm hy hyC => ?_⟩
      by_cases q : j = m
      · exact e ⟨y, by rw [← q]; exact hy, hyC⟩
      · exact h3 j y hj (by omega) hy hyC

/-- at the end of a piece: no core meets it -/
theorem Bfs.noCore {n : Nat} {A : Adj} {root : Nat} {u : Ups} {seen : List Nat} {k : Nat} (h : Bfs n A root u seen k []) (hk : seen.length ≤ k) {x : Nat} (hx : x ∈ seen) : NoCore n A x := by
  intro C hC hlt hxC
  obtain ⟨i0, hi0⟩ := List.getElem?_of_mem hx
  have hl0 := (List.getElem?_eq_some_iff.1 hi0).1
  obtain ⟨i, v, hv, hvC, hlast⟩ := last_in (seen := seen) (C := C) seen.length ⟨i0, x, hl0, hi0, hxC⟩
  have hil := (List.getElem?_eq_some_iff.1 hv).1
  refine ⟨v, hvC, ?_⟩
  -- each of its ties within C is the one to its up
  have key : ∀ p ∈ C, A v p = true → u v = some p := by
    intro p hpC hvp
    obtain ⟨o1, o2⟩ := h.old i v (by omega) hv p hvp
    rcases o2 with o2 | o2
    · exact o2
    · exfalso
      obtain ⟨j, hj⟩ := List.getElem?_of_mem o1
      have hjl := (List.getElem?_eq_some_iff.1 hj).1
      have hpr : p ≠ root := fun e => by rw [e, h.rootU] at o2; cases o2
      obtain ⟨j', y, j1, j2, j3, _⟩ := h.par j p hj hpr
      rw [o2] at j3
      cases j3
      have : j' = i := get_inj h.nd j2 hv
      exact hlast j p (by omega) hjl hj hpC
  unfold deg
  cases hu : u v with
  | none =>
    rw [List.countP_eq_zero.2 fun p hp => by
      intro hvp
      have := key p hp hvp
      rw [hu] at this
      cases this]
    omega
  | some y =>
    have : C.countP (A v) ≤ C.countP (fun p => p == y) := countP_le_of_imp fun p hp hvp => by
      have := key p hp hvp
      rw [hu] at this
      cases this
      simp
    have h2 : C.countP (fun p => p == y) ≤ 1 := by
      have := List.nodup_iff_count.1 hC y
      rw [List.count_eq_countP] at this
      exact this
    omega

theorem thin_of {n : Nat} {A : Adj} (h : ∀ x, x < n → NoCore n A x) : Thin A (List.range n) := by
  intro C hC hne hsub
  cases hC' : C with
  | nil => exact absurd hC' hne
  | cons x r =>
    have hx : x ∈ C := by rw [hC']; exact List.mem_cons_self
    have := h x (List.mem_range.1 (hsub x hx)) C hC (fun y hy => List.mem_range.1 (hsub y hy)) hx
    rw [← hC']
    exact this

/-- at the end of a piece: it is seen -/
theorem Bfs.covers {n : Nat} {A : Adj} {root : Nat} {u : Ups} {seen P : List Nat} {k : Nat} (h : Bfs n A root u seen k []) (hk : seen.length ≤ k) (hP : Comp A P) (hr : root ∈ P) : (∀ x ∈ P, x ∈ seen) ∧ ∀ x ∈ seen, x ∈ P := by
  constructor
  · intro x hx
    have := hP.conn (fun z => decide (z ∈ seen)) (fun a b ha hab => by
      obtain ⟨j, hj⟩ := List.getElem?_of_mem (of_decide_eq_true ha)
      have hlt := (List.getElem?_eq_some_iff.1 hj).1
      exact decide_eq_true (h.old j a (by omega) hj b hab).1) root hr (decide_eq_true (List.mem_of_getElem? h.first)) x hx
    exact of_decide_eq_true this
  · intro x hx
    have := h.stay (fun z => decide (z ∈ P)) (fun a b ha hab => decide_eq_true (hP.closed a b (of_decide_eq_true ha) hab)) (decide_eq_true hr) x hx
    exact of_decide_eq_true this
end Bw
/-! ### M11 -/
namespace Bw

inductive Link (A : Adj) : List Nat → Prop
  | nil : Link A []
  | one (x : Nat) : Link A [x]
  | cons {x y : Nat} {l : List Nat} : A x y = true → Link A (y :: l) → Link A (x :: y :: l)

theorem Link.tail {A : Adj} {x : Nat} {l : List Nat} (h : Link A (x :: l)) : Link A l := by
  cases h with
  | one => exact .nil
  | cons _ h => exact h

theorem Link.get {A : Adj} {l : List Nat} (h : Link A l) : ∀ (i x y : Nat), l[i]? = some x → l[i + 1]? = some y → A x y = true := by
  induction h with
  | nil => intro i x y h; simp at h
  | one x => intro i a b _ h; simp at h
  | @cons x y l e h ih =>
    intro i a b h1 h2
    cases i with
    | zero => simp at h1 h2; rw [← h1, ← h2]; exact e
    | succ i => exact ih i a b (by simpa using h1) (by simpa using h2)

theorem Link.left {A : Adj} : ∀ {l m : List Nat}, Link A (l ++ m) → Link A l
  | [], _, _ => .nil
  | [x], _, _ => .one x
  | x :: y :: l, m, h => by
    cases h with
    | cons e h => exact .cons e (Link.left (l := y :: l) (m := m) h)

theorem Link.join {A : Adj} : ∀ {l : List Nat} {c : Nat} {m : List Nat}, Link A (l ++ [c]) → Link A (c :: m) → Link A (l ++ c :: m)
  | [], _, _, _, h => h
  | [x], c, m, h, k => by
    cases h with
    | cons e _ => exact .cons e k
  | x :: y :: l, c, m, h, k => by
    cases h with
    | cons e h => exact .cons e (Link.join (l := y :: l) h k)

theorem Link.snoc {A : Adj} {l : List Nat} {x y : Nat} (h : Link A (l ++ [x])) (e : A x y = true) : Link A (l ++ [x] ++ [y]) := by
  rw [List.append_assoc]
  exact Link.join h (.cons e (.one y))

theorem Link.rev {A : Adj} (hs : Sym A) : ∀ {l : List Nat}, Link A l → Link A l.reverse
  | [], _ => .nil
  | [x], _ => .one x
  | x :: y :: l, h => by
    cases h with
    | cons e h =>
      have ih := Link.rev hs h
      rw [List.reverse_cons] at ih
      rw [List.reverse_cons, List.reverse_cons]
      exact ih.snoc (by rw [hs]; exact e)

structure IsRing (n : Nat) (A : Adj) (R : List Nat) : Prop where
  len : 3 ≤ R.length
  nd : R.Nodup
  lt : ∀ x ∈ R, x < n
  next : ∀ (i x y : Nat), R[i]? = some x → R[i + 1]? = some y → A x y = true
  close : ∀ x y : Nat, R[0]? = some x → R[R.length - 1]? = some y → A x y = true

theorem IsRing.core {n : Nat} {A : Adj} {R : List Nat} (hs : Sym A) (h : IsRing n A R) : ¬ Thin A (List.range n) := by
  intro ht
  obtain ⟨v, hv, dv⟩ := ht R h.nd (fun e => by have := h.len; rw [e] at this; simp at this) fun x hx => List.mem_range.2 (h.lt x hx)
  obtain ⟨i, hi⟩ := List.getElem?_of_mem hv
  have hil := (List.getElem?_eq_some_iff.1 hi).1
  have hlen := h.len
  -- two neighbours at two places
  have two : ∀ (j k x y : Nat), j ≠ k → R[j]? = some x → R[k]? = some y → A v x = true → A v y = true → False := by
    intro j k x y hjk hj hk ax ay
    have := low_one h.nd dv (List.mem_of_getElem? hj) (List.mem_of_getElem? hk) ax ay
    exact hjk (get_inj h.nd hj (by rw [this]; exact hk))
  have at' : ∀ j, j < R.length → ∃ x, R[j]? = some x := fun j hj => ⟨_, List.getElem?_eq_getElem hj⟩
  by_cases i0 : i = 0
  · subst i0
    obtain ⟨x, hx⟩ := at' 1 (by omega)
    obtain ⟨y, hy⟩ := at' (R.length - 1) (by omega)
    exact two 1 (R.length - 1) x y (by omega) hx hy (h.next 0 v x hi hx) (h.close v y hi hy)
  · obtain ⟨x, hx⟩ := at' (i - 1) (by omega)
    have ax : A v x = true := by
      rw [hs]
      exact h.next (i - 1) x v hx (by rw [show i - 1 + 1 = i by omega]; exact hi)
    by_cases il : i = R.length - 1
    · obtain ⟨y, hy⟩ := at' 0 (by omega)
      refine two (i - 1) 0 x y (by omega) hx hy ax ?_
      rw [hs]
      exact h.close y v hy (by rw [← il]; exact hi)
    · obtain ⟨y, hy⟩ := at' (i + 1) (by omega)
      exact two (i - 1) (i + 1) x y (by omega) hx hy ax (h.next i v y hi hy)

/-- ways up in what was seen -/
structure Ways (n : Nat) (A : Adj) (u : Ups) (seen : List Nat) (root : Nat) : Prop where
  ex : ∀ x ∈ seen, ∃ l, Chain u x l ∧ (∀ y ∈ l, y ∈ seen) ∧ l.Nodup ∧ ∃ pre, l = pre ++ [root]
  tie : ∀ x ∈ seen, ∀ y, u x = some y → A y x = true
  lt : ∀ x ∈ seen, x < n

theorem Bfs.ways {n : Nat} {A : Adj} {root : Nat} {u : Ups} {seen done : List Nat} {k : Nat} (h : Bfs n A root u seen k done) : Ways n A u seen root := by
  have key : ∀ (m i x : Nat), i < m → seen[i]? = some x → ∃ l, Chain u x l ∧ (∀ y ∈ l, y ∈ seen) ∧ l.Nodup ∧ (∃ pre, l = pre ++ [root]) ∧ ∀ y ∈ l, ∃ j, j ≤ i ∧ seen[j]? = some y := by
    intro m
    induction m with
    | zero => intro i x h; omega
    | succ m ih =>
      intro i x hi hx
      by_cases hr : x = root
      · subst hr
        refine ⟨[x], .top h.rootU, fun y hy => ?_, by simp, ⟨[], rfl⟩, fun y hy => ?_⟩
        · rw [List.mem_singleton] at hy; rw [hy]; exact List.mem_of_getElem? hx
        · rw [List.mem_singleton] at hy; rw [hy]; exact ⟨i, Nat.le_refl _, hx⟩
      · obtain ⟨j, y, j1, j2, j3, _⟩ := h.par i x hx hr
        obtain ⟨l, c, l1, l2, ⟨pre, l3⟩, l4⟩ := ih j y (by omega) j2
        refine ⟨x :: l, .up j3 c, fun z hz => ?_, ?_, ⟨x :: pre, by rw [l3]; rfl⟩, fun z hz => ?_⟩
        · rcases List.mem_cons.1 hz with q | q
          · rw [q]; exact List.mem_of_getElem? hx
          · exact l1 z q
        · rw [List.nodup_cons]
          refine ⟨fun q => ?_, l2⟩
          obtain ⟨j', q1, q2⟩ := l4 x q
          have := get_inj h.nd q2 hx
          omega
        · rcases List.mem_cons.1 hz with q | q
          · rw [q]; exact ⟨i, Nat.le_refl _, hx⟩
          · obtain ⟨j', q1, q2⟩ := l4 z q
            exact ⟨j', by omega, q2⟩
  refine ⟨fun x hx => ?_, fun x hx y hy => ?_, h.lt⟩
  · obtain ⟨i, hi⟩ := List.getElem?_of_mem hx
    obtain ⟨l, c, l1, l2, l3, _⟩ := key (i + 1) i x (by omega) hi
    exact ⟨l, c, l1, l2, l3⟩
  · obtain ⟨i, hi⟩ := List.getElem?_of_mem hx
    have hr : x ≠ root := fun e => by rw [e, h.rootU] at hy; cases hy
    obtain ⟨j, y', _, _, j3, j4⟩ := h.par i x hi hr
    rw [hy] at j3
    cases j3
    exact j4

theorem Chain.link {A : Adj} {u : Ups} {v : Nat} {l : List Nat} (hs : Sym A) (h : Chain u v l) : (∀ x ∈ l, ∀ y, u x = some y → A y x = true) → Link A l := by
  induction h with
  | top _ => intro _; exact .one _
  | @up v w l e c ih =>
    intro ht
    have ih' := ih fun x hx => ht x (List.mem_cons_of_mem _ hx)
    obtain ⟨r, hr⟩ := c.head
    rw [hr] at ih' ⊢
    exact .cons (by rw [hs]; exact ht v List.mem_cons_self w e) ih'

/-- two ways up, their common end cut off as far as it was -/
structure Cut (l1 l2 L R : List Nat) (c : Nat) (t : List Nat) : Prop where
  e1 : l1 = L ++ c :: t
  e2 : l2 = R ++ c :: t

theorem nodup_rev {l : List Nat} (h : l.Nodup) : l.reverse.Nodup := by
  rw [List.nodup_iff_pairwise_ne, List.pairwise_reverse]
  rw [List.nodup_iff_pairwise_ne] at h
  exact List.Pairwise.imp (fun {a b} h => Ne.symm h) h

theorem Cut.step {l1 l2 L R : List Nat} {c d : Nat} {t : List Nat} (h : Cut l1 l2 (L ++ [d]) (R ++ [d]) c t) : Cut l1 l2 L R d (c :: t) :=
  ⟨by rw [h.e1, List.append_assoc]; rfl, by rw [h.e2, List.append_assoc]; rfl⟩

theorem Cut.ring {n : Nat} {A : Adj} {u : Ups} {seen : List Nat} {root : Nat} (hs : Sym A) (W : Ways n A u seen root) {s p : Nat} {l1 l2 L R t : List Nat} {c : Nat} (hsn : s ∈ seen) (hpn : p ∈ seen)
    (h1 : Chain u s l1) (h2 : Chain u p l2) (hC : Cut l1 l2 L R c t) (hstop : ¬ ∃ L' R' d, L = L' ++ [d] ∧ R = R' ++ [d]) (hsp : A s p = true) (hne : s ≠ p) (u1 : u s ≠ some p) (u2 : u p ≠ some s) :
    IsRing n A (L ++ [c] ++ R.reverse) := by
  obtain ⟨m1, k1, in1, nd1, _⟩ := W.ex s hsn
  obtain ⟨m2, k2, in2, nd2, _⟩ := W.ex p hpn
  have := k1.det h1
  subst this
  have := k2.det h2
  subst this
  have e1 := hC.e1
  have e2 := hC.e2
  have li1 : Link A m1 := h1.link hs fun x hx => W.tie x (in1 x hx)
  have li2 : Link A m2 := h2.link hs fun x hx => W.tie x (in2 x hx)
  have lL : Link A (L ++ [c]) := by
    rw [e1, show L ++ c :: t = (L ++ [c]) ++ t by simp] at li1
    exact li1.left
  have lR : Link A (R ++ [c]) := by
    rw [e2, show R ++ c :: t = (R ++ [c]) ++ t by simp] at li2
    exact li2.left
  have lRr : Link A (c :: R.reverse) := by
    have := Link.rev hs lR
    rwa [List.reverse_append] at this
  have hd1 : ∃ r, L ++ c :: t = s :: r := by
    obtain ⟨r, hr⟩ := h1.head
    exact ⟨r, by rw [← e1]; exact hr⟩
  have hd2 : ∃ r, R ++ c :: t = p :: r := by
    obtain ⟨r, hr⟩ := h2.head
    exact ⟨r, by rw [← e2]; exact hr⟩
  -- no place lies on both sides
  have apart : ∀ x, x ∈ L → x ∉ R := by
    intro x hxL hxR
    obtain ⟨a1, b1, q1⟩ := List.append_of_mem hxL
    obtain ⟨a2, b2, q2⟩ := List.append_of_mem hxR
    have c1 := h1.tail (pre := a1) (x := x) (post := b1 ++ c :: t) (by rw [e1, q1]; simp)
    have c2 := h2.tail (pre := a2) (x := x) (post := b2 ++ c :: t) (by rw [e2, q2]; simp)
    have := c1.det c2
    have := (List.cons.inj this).2
    have := List.append_cancel_right this
    subst this
    rcases List.eq_nil_or_concat b1 with e | ⟨b, d, e⟩
    · subst e
      exact hstop ⟨a1, a2, x, q1, q2⟩
    · subst e
      exact hstop ⟨a1 ++ x :: b, a2 ++ x :: b, d, by rw [q1]; simp, by rw [q2]; simp⟩
  have nL : (L ++ [c]).Nodup := by
    rw [e1, show L ++ c :: t = (L ++ [c]) ++ t by simp] at nd1
    exact List.Nodup.sublist (List.sublist_append_left _ _) nd1
  have nR : (R ++ [c]).Nodup := by
    rw [e2, show R ++ c :: t = (R ++ [c]) ++ t by simp] at nd2
    exact List.Nodup.sublist (List.sublist_append_left _ _) nd2
  have cR : c ∉ R := by
    rw [List.nodup_append] at nR
    exact fun q => nR.2.2 c q c List.mem_cons_self rfl
  refine ⟨?_, ?_, fun x hx => ?_, ?_, ?_⟩
  · -- at least three
    simp only [List.length_append, List.length_reverse, List.length_singleton]
    cases hL : L with
    | nil =>
      rw [hL] at hd1
      obtain ⟨r, hr⟩ := hd1
      have ec : c = s := (List.cons.inj hr).1
      cases hR : R with
      | nil =>
        rw [hR] at hd2
        obtain ⟨r2, hr2⟩ := hd2
        exact absurd (ec.symm.trans (List.cons.inj hr2).1) hne
      | cons a R' =>
        cases hR' : R' with
        | nil =>
          exfalso
          rw [hR, hR'] at hd2 e2
          obtain ⟨r2, hr2⟩ := hd2
          have ea : a = p := (List.cons.inj hr2).1
          refine u2 ?_
          rw [← ea, ← ec]
          exact h2.next (pre := []) (post := t) e2
        | cons b R'' => simp only [List.length_cons, List.length_nil]; omega
    | cons a L' =>
      cases hR : R with
      | nil =>
        rw [hR] at hd2
        obtain ⟨r2, hr2⟩ := hd2
        have ec : c = p := (List.cons.inj hr2).1
        cases hL' : L' with
        | nil =>
          exfalso
          rw [hL, hL'] at hd1 e1
          obtain ⟨r, hr⟩ := hd1
          have ea : a = s := (List.cons.inj hr).1
          refine u1 ?_
          rw [← ea, ← ec]
          exact h1.next (pre := []) (post := t) e1
        | cons b L'' => simp only [List.length_cons, List.length_nil]; omega
      | cons b R' => simp only [List.length_cons]; omega
  · rw [List.nodup_append]
    refine ⟨nL, nodup_rev (List.Nodup.sublist (List.sublist_append_left _ _) nR), fun a ha b hb e => ?_⟩
    subst e
    rw [List.mem_reverse] at hb
    rcases List.mem_append.1 ha with q | q
    · exact apart a q hb
    · rw [List.mem_singleton] at q
      exact cR (q ▸ hb)
  · rcases List.mem_append.1 hx with q | q
    · exact W.lt x (in1 x (by rw [e1, show L ++ c :: t = (L ++ [c]) ++ t by simp]; exact List.mem_append_left _ q))
    · rw [List.mem_reverse] at q
      exact W.lt x (in2 x (by rw [e2]; exact List.mem_append_left _ q))
  · have := Link.join lL lRr
    rw [show L ++ [c] ++ R.reverse = L ++ c :: R.reverse by simp]
    exact this.get
  · intro x y hx hy
    have ex : x = s := by
      obtain ⟨r, hr⟩ := hd1
      cases L with
      | nil =>
        have ec : c = s := (List.cons.inj hr).1
        simp at hx
        rw [← hx]; exact ec
      | cons a L' =>
        have ea : a = s := (List.cons.inj hr).1
        simp at hx
        rw [← hx]; exact ea
    have ey : y = p := by
      obtain ⟨r, hr⟩ := hd2
      rw [← List.getLast?_eq_getElem?] at hy
      cases R with
      | nil =>
        have ec : c = p := (List.cons.inj hr).1
        simp at hy
        rw [← hy]; exact ec
      | cons b R' =>
        have eb : b = p := (List.cons.inj hr).1
        rw [show L ++ [c] ++ (b :: R').reverse = (L ++ [c] ++ R'.reverse) ++ [b] by simp, List.getLast?_concat] at hy
        cases hy
        exact eb
    rw [ex, ey]
    exact hsp
end Bw
/-! ### W0 -/
namespace Bw
open PySem PySem.Spec PyProof.Rows L2

/-! ### the text -/
def topS (i : Nat) : Stmt := PySem.Challenge.pw_bagwood_k49_whole_low_widths.main.body.getD i (.Pass ⟨0, 0, 0, 0⟩)

/-- a def of the top -/
structure Df (K : PySem.W.Frag) (mg : Str → Option Value) (nm : Str) (st : Stmt) (ps : List Str) where
  f : Addr
  fd : FuncData
  F : Fun K nm nm st f fd
  g : mg nm = some (.ref f)
  b : Binds K fd ps []

/-- the built-in names are still the built-in ones -/
structure Bi (mg : Str → Option Value) : Prop where
  len_ : mg "len" = none
  sorted_ : mg "sorted" = none
  range_ : mg "range" = none
  list_ : mg "list" = none
  reversed_ : mg "reversed" = none
  min_ : mg "min" = none
  max_ : mg "max" = none
  set_ : mg "set" = none
  isinstance_ : mg "isinstance" = none
  int_ : mg "int" = none
  bool_ : mg "bool" = none

/-! ### heaps -/
abbrev Ex (H H' : Hp) : Prop := Evl.Ex H H'

def vN (l : List Nat) : List V := l.map fun x : Nat => V.int (x : Int)
/-- a list of numbers -/
def LN (H : Hp) (p : Addr) (l : List Nat) : Prop := H p = some (.lst (vN l))
theorem LN.ex {H H' : Hp} {p : Addr} {l : List Nat} (h : LN H p l) (e : Ex H H') : LN H' p l := e _ _ h
theorem LN.seq {K : PySem.W.Frag} {H : Hp} {p : Addr} {l : List Nat} (h : LN H p l) : SqL K H p (vN l) := .inl (.inl h)
theorem vN_len (l : List Nat) : (vN l).length = l.length := List.length_map _
theorem vN_get {l : List Nat} {i x : Nat} (h : l[i]? = some x) : (vN l)[i]? = some (V.int (x : Int)) := by
  unfold vN
  rw [List.getElem?_map, h]
  rfl
theorem vN_app (l m : List Nat) : vN (l ++ m) = vN l ++ vN m := List.map_append
theorem vN_flat (l : List Nat) : (vN l).all flatV = true := by
  unfold vN
  rw [List.all_map, List.all_eq_true]
  intro x _
  rfl
theorem vN_eq (l : List Nat) : vN l = (l.map fun x : Nat => (x : Int)).map V.int := by
  unfold vN
  rw [List.map_map]
  rfl
theorem inV_vN (x : Nat) (l : List Nat) : inV (.int (x : Int)) (vN l) = l.contains x := by
  unfold inV vN
  rw [List.any_map, Bool.eq_iff_iff, List.any_eq_true, List.contains_iff_mem]
  constructor
  · rintro ⟨y, hy, h⟩
    have : (y : Int) = (x : Int) := by simpa [eqV] using h
    have : y = x := by omega
    exact this ▸ hy
  · intro h
    exact ⟨x, h, by simp [eqV]⟩

theorem sorted_vN {l : List Nat} {ns' : List Int} (hp : ns'.Perm (l.map fun x : Nat => (x : Int))) (hs : ns'.Pairwise (· ≤ ·)) (hn : l.Nodup) :
    ∃ l' : List Nat, ns'.map V.int = vN l' ∧ Up l' ∧ l'.length = l.length ∧ ∀ x, x ∈ l' ↔ x ∈ l := by
  have hpos : ∀ z ∈ ns', ((z.toNat : Nat) : Int) = z := fun z hz => by
    obtain ⟨x, _, rfl⟩ := List.mem_map.1 (hp.mem_iff.1 hz)
    simp
  have e1 : (ns'.map Int.toNat).map (fun x : Nat => (x : Int)) = ns' := by
    rw [List.map_map]
    conv => rhs; rw [← List.map_id ns']
    exact List.map_congr_left hpos
  have hmem : ∀ x, x ∈ ns'.map Int.toNat ↔ x ∈ l := fun x => by
    rw [List.mem_map]
    constructor
    · rintro ⟨z, hz, rfl⟩
      obtain ⟨y, hy, rfl⟩ := List.mem_map.1 (hp.mem_iff.1 hz)
      simpa using hy
    · intro hx
      exact ⟨(x : Int), hp.mem_iff.2 (List.mem_map.2 ⟨x, hx, rfl⟩), by simp⟩
  have hnd : ns'.Nodup := by
    refine hp.nodup_iff.2 ?_
    rw [List.nodup_iff_pairwise_ne, List.pairwise_map]
    exact List.Pairwise.imp (fun {a b} h e => h (Int.ofNat.inj (show (a : Int) = (b : Int) from e))) (List.nodup_iff_pairwise_ne.1 hn)
  refine ⟨ns'.map Int.toNat, ?_, ?_, ?_, hmem⟩
  · rw [vN_eq, e1]
  · unfold Up
    rw [List.pairwise_map]
    rw [List.nodup_iff_pairwise_ne] at hnd
    refine List.Pairwise.imp_of_mem (fun {a b} ha hb h => ?_) (hs.and hnd)
    have h1 := hpos a ha
    have h2 := hpos b hb
    omega
  · rw [List.length_map, hp.length_eq, List.length_map]

theorem eqN {x y : Nat} (h : decide (V.int (x : Int) = V.int (y : Int)) = true) : x = y := by
  have := V.int.inj (of_decide_eq_true h)
  omega
theorem neN {x y : Nat} (h : ¬ decide (V.int (x : Int) = V.int (y : Int)) = true) : x ≠ y := fun e => h (decide_eq_true (by rw [e]))

/-- the ties, as a list of pairs -/
def TL (H : Hp) (a : Addr) (ties : Ties) : Prop :=
  ∃ g : Nat → Addr, H a = some (.lst ((List.range ties.length).map fun i => V.ref (g i))) ∧ ∀ (i x y : Nat), ties[i]? = some (x, y) → H (g i) = some (.tup [.int (x : Int), .int (y : Int)])
theorem TL.ex {H H' : Hp} {a : Addr} {ties : Ties} (h : TL H a ties) (e : Evl.Ex H H') : TL H' a ties := by
  obtain ⟨g, h1, h2⟩ := h
  exact ⟨g, e _ _ h1, fun i x y q => e _ _ (h2 i x y q)⟩
/-- a graph -/
def WebAt (H : Hp) (a : Addr) (n : Nat) (ties : Ties) : Prop := ∃ tl, H a = some (.tup [.int (n : Int), .ref tl]) ∧ TL H tl ties
theorem WebAt.ex {H H' : Hp} {a : Addr} {n : Nat} {ties : Ties} (h : WebAt H a n ties) (e : Evl.Ex H H') : WebAt H' a n ties := by
  obtain ⟨tl, h1, h2⟩ := h
  exact ⟨tl, e _ _ h1, h2.ex e⟩

/-- a list of lists of numbers, each item one of its own -/
def LL (H : Hp) (a : Addr) (n : Nat) (f : Nat → List Nat) : Prop :=
  ∃ g : Nat → Addr, H a = some (.lst ((List.range n).map fun x => V.ref (g x))) ∧ ∀ x, x < n → g x ≠ a ∧ LN H (g x) (f x)
theorem LL.ex {H H' : Hp} {a : Addr} {n : Nat} {f : Nat → List Nat} (h : LL H a n f) (e : Ex H H') : LL H' a n f := by
  obtain ⟨g, h1, h2⟩ := h
  exact ⟨g, e _ _ h1, fun x hx => ⟨(h2 x hx).1, (h2 x hx).2.ex e⟩⟩
theorem range_get {n x : Nat} {α : Type} {g : Nat → α} (h : x < n) : ((List.range n).map g)[x]? = some (g x) := by
  rw [List.getElem?_map, List.getElem?_range h]
  rfl
theorem range_set {n x : Nat} {α : Type} {g : Nat → α} {y : α} (h : x < n) : ((List.range n).map g).set x y = (List.range n).map (fun z => if z = x then y else g z) := by
  apply List.ext_getElem?
  intro i
  rw [List.getElem?_set]
  by_cases hi : i < n
  · rw [range_get hi]
    by_cases e : x = i
    · subst e
      rw [if_pos rfl, if_pos (by simpa using h), range_get h, if_pos rfl]
    · rw [if_neg e, range_get hi, if_neg (fun q => e q.symm)]
  · have e1 : ((List.range n).map g)[i]? = none := List.getElem?_eq_none (by simpa using hi)
    have e2 : ((List.range n).map fun z => if z = x then y else g z)[i]? = none := List.getElem?_eq_none (by simpa using hi)
    rw [e1, e2, if_neg (by omega)]
theorem LL.congr {H : Hp} {a : Addr} {n : Nat} {f f' : Nat → List Nat} (h : LL H a n f) (e : ∀ x, x < n → f x = f' x) : LL H a n f' := by
  obtain ⟨g, h1, h2⟩ := h
  exact ⟨g, h1, fun x hx => by rw [← e x hx]; exact h2 x hx⟩
/-- an item is replaced -/
theorem LL.put {H : Hp} {a q : Addr} {n x : Nat} {f : Nat → List Nat} {l : List Nat} {g : Nat → Addr} (h1 : H a = some (.lst ((List.range n).map fun x => V.ref (g x)))) (h2 : ∀ x, x < n → g x ≠ a ∧ LN H (g x) (f x))
    (hx : x < n) (hq : q ≠ a) (hl : LN H q l) : LL (upd H a (.lst (((List.range n).map fun x => V.ref (g x)).set x (.ref q)))) a n (fun z => if z = x then l else f z) := by
  refine ⟨fun z => if z = x then q else g z, ?_, fun z hz => ?_⟩
  · rw [upd_same, range_set hx]
    congr 3
    funext z
    by_cases e : z = x
    · simp only [if_pos e]
    · simp only [if_neg e]
  · by_cases e : z = x
    · simp only [if_pos e]
      exact ⟨hq, by unfold LN; rw [upd_ne hq]; exact hl⟩
    · simp only [if_neg e]
      exact ⟨(h2 z hz).1, by unfold LN; rw [upd_ne (h2 z hz).1]; exact (h2 z hz).2⟩

/-- all but one stand as they stood -/
def But (a : Addr) (H H' : Hp) : Prop := ∀ b o, b ≠ a → H b = some o → H' b = some o
theorem But.refl (a : Addr) (H : Hp) : But a H H := fun _ _ _ h => h
theorem But.ex {a : Addr} {H H1 H2 : Hp} (h : But a H H1) (e : Ex H1 H2) : But a H H2 := fun b o hb k => e _ _ (h b o hb k)
theorem But.of_ex {a : Addr} {H H1 : Hp} (e : Ex H H1) : But a H H1 := fun b o _ k => e _ _ k
theorem But.upd {a : Addr} {H H1 : Hp} {o : HO} (h : But a H H1) : But a H (upd H1 a o) := fun b u hb k => by
  rw [upd_ne hb]; exact h b u hb k
theorem But.trans {a : Addr} {H H1 H2 : Hp} (h : But a H H1) (k : But a H1 H2) : But a H H2 := fun b o hb q => k b o hb (h b o hb q)
/-- what was not there may change -/
theorem But.new {a : Addr} {H H1 H2 : Hp} (e : Ex H H1) (h : But a H1 H2) (n : H a = none) : Ex H H2 := fun b o k => h b o (ne_of_none k n) (e _ _ k)

theorem sz {n : Nat} (h : n ≤ 100000) : n ≤ sizeLine := Evl.sz_of h
theorem sz' {n : Nat} (h : n < 100000) : n < sizeLine := Evl.sz_lt h
theorem Room.u65 {k : Nat} {A : Around} (r : Room (k + 1) A) : A.units + 65 < cLine := by
  have := r.un
  omega

/-! ### rules whose reading names the written part K (within a comprehension's block, too) -/
section
variable {X : Cx} {K : PySem.W.Frag}
theorem kNotIn (h : X.K = K := by rfl) : OpR X (compareOp .NotIn) (rIn K true) := by
  subst h; exact op_notIn_seq
theorem kIn (h : X.K = K := by rfl) : OpR X (compareOp .In) (rIn K false) := by
  subst h; exact op_in_seq
theorem kIxL (h : X.K = K := by rfl) : IxR X (rIxL K) := by
  subst h; exact ix_list
theorem kIxT (h : X.K = K := by rfl) : IxR X (rIxT K) := by
  subst h; exact ix_tup
theorem kLen (h : X.K = K := by rfl) : CallR X (.builtin "len") (Evl.rLenS K) := by
  subst h; exact call_len_seq
theorem kList (h : X.K = K := by rfl) : CallR X (.type "list") (Evl.rListS K) := by
  subst h; exact call_list_of
end

/-! ### comprehensions -/
open Evl in
theorem given_filter (l : List Nat) (p : Nat → Bool) : given l.length (fun i => p (l.getD i 0)) (fun i => V.int ((l.getD i 0 : Nat) : Int)) = vN (l.filter p) := by
  unfold given vN
  have e : (List.range l.length).map (fun i => l.getD i 0) = l := by
    apply List.ext_getElem?
    intro i
    by_cases hi : i < l.length
    · rw [range_get hi, List.getD_eq_getElem?_getD, List.getElem?_eq_getElem hi]
      rfl
    · rw [List.getElem?_eq_none (by simpa using hi), List.getElem?_eq_none (by omega)]
  have : ((List.range l.length).filter (fun i => p (l.getD i 0))).map (fun i => V.int ((l.getD i 0 : Nat) : Int)) = (((List.range l.length).map (fun i => l.getD i 0)).filter p).map (fun x : Nat => V.int (x : Int)) := by
    rw [List.filter_map, List.map_map]
    rfl
  rw [this, e]
open Evl in
theorem given_all (n : Nat) (v : Nat → V) : given n (fun _ => true) v = (List.range n).map v := by
  unfold given
  rw [List.filter_eq_self.2 (fun _ _ => rfl)]

section
variable {K : PySem.W.Frag} {σ : L2.St} {H : Hp} {te : TE}
/-- the numbers of a list that keep to a test -/
theorem el_filter {a : Addr} {l : List Nat} {tl : TE} {t : TT} {j : Nat} {vs : List Nat} (p : Nat → Bool) (h : Evl.Ev tl σ H (.ref a)) (hx : SqL K H a (vN l)) (hz : l.length ≤ 40000) (hw : ∀ x, wipe ((wipe σ vs).set j (some x)) vs = wipe σ vs)
    (ht : ∀ (x : Nat) H1, Ex H H1 → x ∈ l → Evl.EvT t ((wipe σ vs).set j (some (.int (x : Int)))) H1 (p x)) (he : ∀ (x : Nat) H1, Evl.Ev te ((wipe σ vs).set j (some (.int (x : Int)))) H1 (.int (x : Int))) :
    Evl.EvL (tLc (iList K tl) (gName j) t te vs) σ H (vN (l.filter p)) := by
  have g := Evl.el_lcL (t := t) (te := te) (fun i => p (l.getD i 0)) (fun i => V.int ((l.getD i 0 : Nat) : Int)) h hx (by rw [vN_len]; exact hz) hw (fun i x H1 e hi => ?_) (fun i x H1 e hi _ => ?_)
  · rw [vN_len, given_filter] at g
    exact g
  · have hil : i < l.length := by have := (List.getElem?_eq_some_iff.1 hi).1; rwa [vN_len] at this
    have e1 := vN_get (List.getElem?_eq_getElem hil)
    rw [hi] at e1
    cases e1
    have e2 : l.getD i 0 = l[i] := by rw [List.getD_eq_getElem?_getD, List.getElem?_eq_getElem hil]; rfl
    rw [e2]
    exact ht l[i] H1 e (List.getElem_mem hil)
  · have hil : i < l.length := by have := (List.getElem?_eq_some_iff.1 hi).1; rwa [vN_len] at this
    have e1 := vN_get (List.getElem?_eq_getElem hil)
    rw [hi] at e1
    cases e1
    have e2 : l.getD i 0 = l[i] := by rw [List.getD_eq_getElem?_getD, List.getElem?_eq_getElem hil]; rfl
    rw [e2]
    exact he l[i] H1
/-- a new list of new lists, over a list -/
theorem lc_lists {a : Addr} {xs : List V} {tl : TE} {j : Nat} {vs : List Nat} (f : Nat → List Nat) {Q : VK} (h : Evl.Ev tl σ H (.ref a)) (hx : SqL K H a xs) (hz : xs.length ≤ 40000) (hw : ∀ x, wipe ((wipe σ vs).set j (some x)) vs = wipe σ vs)
    (he : ∀ (i : Nat) (x : V) H1, Ex H H1 → xs[i]? = some x → ∀ Q : VK, (∀ q H2, H1 q = none → Ex H1 H2 → LN H2 q (f i) → Q (.ref q) H2) → te ((wipe σ vs).set j (some x)) H1 Q)
    (k : ∀ D H', H D = none → Ex H H' → LL H' D xs.length f → Q (.ref D) H') : tLc (iList K tl) (gName j) tYes te vs σ H Q := by
  refine h H (Evl.Ex.refl H) _ fun H0 e0 => ⟨a, rfl, ⟨xs, Evl.ex_l e0 hx⟩, fun D hD0 => ?_⟩
  have hD := Evl.fresh_back e0 hD0
  refine lc_list (xs := xs) (fun i H' => Ex H H' ∧ LL H' D i f) ⟨e0.trans (Evl.Ex.new hD0), fun _ => 0, upd_same, fun x hx => by omega⟩ (fun i H' _ p => Evl.ex_l p.1 hx) (fun i x H' hi p => ?_) (fun H' p => k D H' hD p.1 p.2)
  refine ⟨hw x, ?_⟩
  show te ((wipe σ vs).set j (some x)) H' _
  obtain ⟨e1, g, h1, h2⟩ := p
  refine he i x H' e1 hi _ fun q H2 hq e2 hl => ?_
  have hil := (List.getElem?_eq_some_iff.1 hi).1
  have hqD : q ≠ D := fun e => by rw [e, h1] at hq; cases hq
  refine ⟨_, e2 _ _ h1, sz' (by rw [List.length_map, List.length_range]; omega), Evl.Ex.mut (e1.trans e2) hD, fun z => if z = i then q else g z, ?_, fun z hz => ?_⟩
  · rw [upd_same, List.range_succ, List.map_append]
    congr 3
    · apply List.map_congr_left
      intro z hz
      rw [List.mem_range] at hz
      have : ¬ z = i := by omega
      simp only [if_neg this]
    · simp
  · by_cases e : z = i
    · simp only [if_pos e]
      refine ⟨hqD, ?_⟩
      unfold LN
      rw [upd_ne hqD, e]
      exact hl
    · simp only [if_neg e]
      have := h2 z (by omega)
      refine ⟨this.1, ?_⟩
      unfold LN
      rw [upd_ne this.1]
      exact e2 _ _ this.2
/-- a new list of new lists, over range(n) -/
theorem lcr_lists {n : Nat} {ta : TA} {j : Nat} {vs : List Nat} (f : Nat → List Nat) {Q : VK} (h : Evl.EvA ta σ H [.int (n : Int)]) (hz : n ≤ 40000) (hw : ∀ x, wipe ((wipe σ vs).set j (some x)) vs = wipe σ vs)
    (he : ∀ (i : Nat) H1, Ex H H1 → i < n → ∀ Q : VK, (∀ q H2, H1 q = none → Ex H1 H2 → LN H2 q (f i) → Q (.ref q) H2) → te ((wipe σ vs).set j (some (.int (i : Int)))) H1 Q)
    (k : ∀ D H', H D = none → Ex H H' → LL H' D n f → Q (.ref D) H') : tLc (iRng1 ta) (gName j) tYes te vs σ H Q := by
  refine h H (Evl.Ex.refl H) _ fun H0 e0 => ⟨(n : Int), rfl, by omega, by omega, fun D hD0 => ?_⟩
  have hD := Evl.fresh_back e0 hD0
  rw [Int.toNat_natCast]
  refine lc_range (lo := 0) (n := n) (fun i H' => Ex H H' ∧ LL H' D i f) ⟨e0.trans (Evl.Ex.new hD0), fun _ => 0, upd_same, fun x hx => by omega⟩ (fun i H' hi p => ?_) (fun H' p => k D H' hD p.1 p.2)
  have ez : (0 : Int) + (i : Int) = (i : Int) := Int.zero_add _
  rw [ez]
  refine ⟨hw _, ?_⟩
  show te ((wipe σ vs).set j (some (.int (i : Int)))) H' _
  obtain ⟨e1, g, h1, h2⟩ := p
  refine he i H' e1 hi _ fun q H2 hq e2 hl => ?_
  have hqD : q ≠ D := fun e => by rw [e, h1] at hq; cases hq
  refine ⟨_, e2 _ _ h1, sz' (by rw [List.length_map, List.length_range]; omega), Evl.Ex.mut (e1.trans e2) hD, fun z => if z = i then q else g z, ?_, fun z hz => ?_⟩
  · rw [upd_same, List.range_succ, List.map_append]
    congr 3
    · apply List.map_congr_left
      intro z hz
      rw [List.mem_range] at hz
      have : ¬ z = i := by omega
      simp only [if_neg this]
    · simp
  · by_cases e : z = i
    · simp only [if_pos e]
      refine ⟨hqD, ?_⟩
      unfold LN
      rw [upd_ne hqD, e]
      exact hl
    · simp only [if_neg e]
      have := h2 z (by omega)
      refine ⟨this.1, ?_⟩
      unfold LN
      rw [upd_ne this.1]
      exact e2 _ _ this.2
end
end Bw
/-! ### S -/
namespace Bw
open PySem PySem.Spec PyProof.Rows L2
abbrev s_less : Stmt := topS 4
abbrev N_less : List Str := ["one", "other", "place"]
abbrev P_less : List Str := ["one", "other"]
theorem sc_less : FnScope N_less P_less (defScope s_less) := ⟨rfl, rfl, rfl, by decide +kernel, rfl, by decide +kernel, by decide +kernel⟩
abbrev s_joint : Stmt := topS 5
abbrev N_joint : List Str := ["one", "other"]
abbrev P_joint : List Str := ["one", "other"]
theorem sc_joint : FnScope N_joint P_joint (defScope s_joint) := ⟨rfl, rfl, rfl, by decide +kernel, rfl, by decide +kernel, by decide +kernel⟩
abbrev s_around : Stmt := topS 7
abbrev N_around : List Str := ["web", "v", "found", "one", "other"]
abbrev P_around : List Str := ["web", "v"]
theorem sc_around : FnScope N_around P_around (defScope s_around) := ⟨rfl, rfl, rfl, by decide +kernel, rfl, by decide +kernel, by decide +kernel⟩
abbrev s_piece_of : Stmt := topS 8
abbrev N_piece_of : List Str := ["web", "places", "first", "found", "at", "place"]
abbrev P_piece_of : List Str := ["web", "places", "first"]
theorem sc_piece_of : FnScope N_piece_of P_piece_of (defScope s_piece_of) := ⟨rfl, rfl, rfl, by decide +kernel, rfl, by decide +kernel, by decide +kernel⟩
abbrev s_pieces : Stmt := topS 9
abbrev N_pieces : List Str := ["web", "places", "found", "seen", "place", "piece"]
abbrev P_pieces : List Str := ["web", "places"]
theorem sc_pieces : FnScope N_pieces P_pieces (defScope s_pieces) := ⟨rfl, rfl, rfl, by decide +kernel, rfl, by decide +kernel, by decide +kernel⟩
abbrev s_way_up : Stmt := topS 11
abbrev N_way_up : List Str := ["ups", "v", "way"]
abbrev P_way_up : List Str := ["ups", "v"]
theorem sc_way_up : FnScope N_way_up P_way_up (defScope s_way_up) := ⟨rfl, rfl, rfl, by decide +kernel, rfl, by decide +kernel, by decide +kernel⟩
abbrev s_ring_by : Stmt := topS 12
abbrev N_ring_by : List Str := ["ups", "one", "other", "left", "right"]
abbrev P_ring_by : List Str := ["ups", "one", "other"]
theorem sc_ring_by : FnScope N_ring_by P_ring_by (defScope s_ring_by) := ⟨rfl, rfl, rfl, by decide +kernel, rfl, by decide +kernel, by decide +kernel⟩
abbrev s_wood : Stmt := topS 13
abbrev N_wood : List Str := ["web", "ups", "piece", "seen", "at", "place"]
abbrev P_wood : List Str := ["web"]
theorem sc_wood : FnScope N_wood P_wood (defScope s_wood) := ⟨rfl, rfl, rfl, by decide +kernel, rfl, by decide +kernel, by decide +kernel⟩
abbrev s_fold_away : Stmt := topS 14
abbrev N_fold_away : List Str := ["near", "rest", "steps", "slack", "v", "one"]
abbrev P_fold_away : List Str := ["near", "rest"]
theorem sc_fold_away : FnScope N_fold_away P_fold_away (defScope s_fold_away) := ⟨rfl, rfl, rfl, by decide +kernel, rfl, by decide +kernel, by decide +kernel⟩
abbrev s_folds : Stmt := topS 15
abbrev N_folds : List Str := ["web", "near", "v"]
abbrev P_folds : List Str := ["web"]
theorem sc_folds : FnScope N_folds P_folds (defScope s_folds) := ⟨rfl, rfl, rfl, by decide +kernel, rfl, by decide +kernel, by decide +kernel⟩
abbrev s_take_up : Stmt := topS 16
abbrev N_take_up : List Str := ["held", "steps", "v", "near"]
abbrev P_take_up : List Str := ["held", "steps"]
theorem sc_take_up : FnScope N_take_up P_take_up (defScope s_take_up) := ⟨rfl, rfl, rfl, by decide +kernel, rfl, by decide +kernel, by decide +kernel⟩
abbrev s_drawn_together : Stmt := topS 17
abbrev N_drawn_together : List Str := ["near", "one", "other", "fresh", "place", "places"]
abbrev P_drawn_together : List Str := ["near", "one", "other"]
theorem sc_drawn_together : FnScope N_drawn_together P_drawn_together (defScope s_drawn_together) := ⟨rfl, rfl, rfl, by decide +kernel, rfl, by decide +kernel, by decide +kernel⟩
abbrev s_one_fewer : Stmt := topS 18
abbrev N_one_fewer : List Str := ["near", "held", "rest", "one", "other", "fresh", "steps", "left", "sets", "part"]
abbrev P_one_fewer : List Str := ["near", "held", "rest"]
theorem sc_one_fewer : FnScope N_one_fewer P_one_fewer (defScope s_one_fewer) := ⟨rfl, rfl, rfl, by decide +kernel, rfl, by decide +kernel, by decide +kernel⟩
abbrev s_four : Stmt := topS 19
abbrev N_four : List Str := ["web", "near", "held", "steps", "rest", "v"]
abbrev P_four : List Str := ["web"]
theorem sc_four : FnScope N_four P_four (defScope s_four) := ⟨rfl, rfl, rfl, by decide +kernel, rfl, by decide +kernel, by decide +kernel⟩
abbrev s_members_of : Stmt := topS 21
abbrev N_members_of : List Str := ["many", "number", "v"]
abbrev P_members_of : List Str := ["many", "number"]
theorem sc_members_of : FnScope N_members_of P_members_of (defScope s_members_of) := ⟨rfl, rfl, rfl, by decide +kernel, rfl, by decide +kernel, by decide +kernel⟩
abbrev s_sizes_of : Stmt := topS 22
abbrev N_sizes_of : List Str := ["many", "sizes", "v", "size"]
abbrev P_sizes_of : List Str := ["many"]
theorem sc_sizes_of : FnScope N_sizes_of P_sizes_of (defScope s_sizes_of) := ⟨rfl, rfl, rfl, by decide +kernel, rfl, by decide +kernel, by decide +kernel⟩
abbrev s_arounds_of : Stmt := topS 23
abbrev N_arounds_of : List Str := ["web", "near", "a", "b", "table", "v", "number"]
abbrev P_arounds_of : List Str := ["web"]
theorem sc_arounds_of : FnScope N_arounds_of P_arounds_of (defScope s_arounds_of) := ⟨rfl, rfl, rfl, by decide +kernel, rfl, by decide +kernel, by decide +kernel⟩
abbrev s_piece_from : Stmt := topS 24
abbrev N_piece_from : List Str := ["table", "places", "piece", "more"]
abbrev P_piece_from : List Str := ["table", "places", "piece"]
theorem sc_piece_from : FnScope N_piece_from P_piece_from (defScope s_piece_from) := ⟨rfl, rfl, rfl, by decide +kernel, rfl, by decide +kernel, by decide +kernel⟩
abbrev s_rim_of : Stmt := topS 25
abbrev N_rim_of : List Str := ["table", "number"]
abbrev P_rim_of : List Str := ["table", "number"]
theorem sc_rim_of : FnScope N_rim_of P_rim_of (defScope s_rim_of) := ⟨rfl, rfl, rfl, by decide +kernel, rfl, by decide +kernel, by decide +kernel⟩
abbrev s_costs : Stmt := topS 26
abbrev N_costs : List Str := ["web", "table", "sizes", "found", "number", "piece", "best", "v"]
abbrev P_costs : List Str := ["web"]
theorem sc_costs : FnScope N_costs P_costs (defScope s_costs) := ⟨rfl, rfl, rfl, by decide +kernel, rfl, by decide +kernel, by decide +kernel⟩
abbrev s_least_width : Stmt := topS 27
abbrev N_least_width : List Str := ["web"]
abbrev P_least_width : List Str := ["web"]
theorem sc_least_width : FnScope N_least_width P_least_width (defScope s_least_width) := ⟨rfl, rfl, rfl, by decide +kernel, rfl, by decide +kernel, by decide +kernel⟩
abbrev s_law_cell : Stmt := topS 29
abbrev N_law_cell : List Str := ["_law_script", "_law_k"]
abbrev P_law_cell : List Str := ["_law_script", "_law_k"]
theorem sc_law_cell : FnScope N_law_cell P_law_cell (defScope s_law_cell) := ⟨rfl, rfl, rfl, by decide +kernel, rfl, by decide +kernel, by decide +kernel⟩
abbrev s_law_turned : Stmt := topS 30
abbrev N_law_turned : List Str := ["_law_script", "_law_n", "_law_turned_here", "_law_v"]
abbrev P_law_turned : List Str := ["_law_script", "_law_n"]
theorem sc_law_turned : FnScope N_law_turned P_law_turned (defScope s_law_turned) := ⟨rfl, rfl, rfl, by decide +kernel, rfl, by decide +kernel, by decide +kernel⟩
abbrev s_law_ties : Stmt := topS 31
abbrev N_law_ties : List Str := ["_law_script", "_law_n", "_law_turned_here", "_law_tied", "_law_most", "_law_k", "_law_cell_here", "_law_j", "_law_other", "_law_share", "_law_ties_here", "_law_a", "_law_b", "_law_mixed"]
abbrev P_law_ties : List Str := ["_law_script", "_law_n"]
theorem sc_law_ties : FnScope N_law_ties P_law_ties (defScope s_law_ties) := ⟨rfl, rfl, rfl, by decide +kernel, rfl, by decide +kernel, by decide +kernel⟩
abbrev s_law_heaps : Stmt := topS 32
abbrev N_law_heaps : List Str := ["_law_n", "_law_ties_here", "_law_least", "_law_k", "_law_a", "_law_b", "_law_low"]
abbrev P_law_heaps : List Str := ["_law_n", "_law_ties_here"]
theorem sc_law_heaps : FnScope N_law_heaps P_law_heaps (defScope s_law_heaps) := ⟨rfl, rfl, rfl, by decide +kernel, rfl, by decide +kernel, by decide +kernel⟩
abbrev s_law_ring : Stmt := topS 33
abbrev N_law_ring : List Str := ["_law_ring_here", "_law_ties_here", "_law_k"]
abbrev P_law_ring : List Str := ["_law_ring_here", "_law_ties_here"]
theorem sc_law_ring : FnScope N_law_ring P_law_ring (defScope s_law_ring) := ⟨rfl, rfl, rfl, by decide +kernel, rfl, by decide +kernel, by decide +kernel⟩
abbrev s_law : Stmt := topS 34
abbrev N_law : List Str := ["_law_script", "_law_n", "_law_ties_here", "_law_web", "_law_wide", "_law_told", "_law_smooth", "_law_none", "_law_found"]
abbrev P_law : List Str := ["_law_script"]
theorem sc_law : FnScope N_law P_law (defScope s_law) := ⟨rfl, rfl, rfl, by decide +kernel, rfl, by decide +kernel, by decide +kernel⟩

end Bw
/-! ### W1 -/
namespace Bw
open PySem PySem.Spec PyProof.Rows L2
theorem take_snoc {α : Type} {l : List α} {i : Nat} {x : α} (h : l[i]? = some x) : l.take (i + 1) = l.take i ++ [x] := by
  rw [List.take_add_one, h]
  rfl
theorem iteP {c A B : Prop} [Decidable c] (hc : c) (h : A) : if c then A else B := by
  rw [if_pos hc]; exact h
theorem iteN {c A B : Prop} [Decidable c] (hc : ¬ c) (h : B) : if c then A else B := by
  rw [if_neg hc]; exact h
theorem asg_of {te : TE} {g : TG} {D : Ends} {σ : L2.St} {H : Hp} (h : te σ H fun x H1 => g x σ H1 D.nx) : tAsg te g D σ H := h
theorem nm_asg {i : Nat} {v : V} {te : TE} {g : TG} {u : TS} {D : Ends} {σ : L2.St} {H : Hp} (h : te (σ.set i (some v)) H fun x H1 => g x (σ.set i (some v)) H1 (u D)) : gName i v σ H (tSeq (tAsg te g) u D) := h
theorem seq_of {t u : TS} {D : Ends} {σ : L2.St} {H : Hp} (h : t { D with nx := u D } σ H) : tSeq t u D σ H := h
section
variable {K : PySem.W.Frag} {σ : L2.St} {H : Hp}
/-- x in l, x not in l, two names -/
theorem et_inN {i j x : Nat} {p : Addr} {l : List Nat} (hi : σ[i]? = some (some (.int (x : Int)))) (hj : σ[j]? = some (some (.ref p))) (h : LN H p l) : Evl.EvT (tTest (tOp (rIn K false) (tVar i) (tVar j))) σ H (l.contains x) := by
  have g := Evl.et_test (Evl.ev_op (ta := tVar i) (tb := tVar j) (σ := σ) (H := H) (Evl.ev_var hi) (Evl.ev_var hj) (Evl.rv_isL (K := K) h.seq rfl (vN_flat l)))
  rw [inV_vN] at g
  exact g
theorem et_ninN {i j x : Nat} {p : Addr} {l : List Nat} (hi : σ[i]? = some (some (.int (x : Int)))) (hj : σ[j]? = some (some (.ref p))) (h : LN H p l) : Evl.EvT (tTest (tOp (rIn K true) (tVar i) (tVar j))) σ H (!l.contains x) := by
  have g := Evl.et_test (Evl.ev_op (ta := tVar i) (tb := tVar j) (σ := σ) (H := H) (Evl.ev_var hi) (Evl.ev_var hj) (Evl.rv_niL (K := K) h.seq rfl (vN_flat l)))
  rw [inV_vN] at g
  exact g
end
end Bw
/-! ### W2 -/
namespace Bw
open PySem PySem.Spec PyProof.Rows L2
/-- a list of lists of numbers; its items are neither itself nor z -/
def LLx (z : Addr) (H : Hp) (a : Addr) (n : Nat) (f : Nat → List Nat) : Prop :=
  ∃ g : Nat → Addr, H a = some (.lst ((List.range n).map fun x => V.ref (g x))) ∧ ∀ x, x < n → g x ≠ a ∧ g x ≠ z ∧ LN H (g x) (f x)
theorem LLx.ex {z : Addr} {H H' : Hp} {a : Addr} {n : Nat} {f : Nat → List Nat} (h : LLx z H a n f) (e : Ex H H') : LLx z H' a n f := by
  obtain ⟨g, h1, h2⟩ := h
  exact ⟨g, e _ _ h1, fun x hx => ⟨(h2 x hx).1, (h2 x hx).2.1, (h2 x hx).2.2.ex e⟩⟩
theorem LLx.ll {z : Addr} {H : Hp} {a : Addr} {n : Nat} {f : Nat → List Nat} (h : LLx z H a n f) : LL H a n f := by
  obtain ⟨g, h1, h2⟩ := h
  exact ⟨g, h1, fun x hx => ⟨(h2 x hx).1, (h2 x hx).2.2⟩⟩
theorem LL.llx {z : Addr} {H : Hp} {a : Addr} {n : Nat} {f : Nat → List Nat} (h : LL H a n f) (nz : H z = none) : LLx z H a n f := by
  obtain ⟨g, h1, h2⟩ := h
  exact ⟨g, h1, fun x hx => ⟨(h2 x hx).1, ne_of_none (h2 x hx).2 nz, (h2 x hx).2⟩⟩
theorem LLx.congr {z : Addr} {H : Hp} {a : Addr} {n : Nat} {f f' : Nat → List Nat} (h : LLx z H a n f) (e : ∀ x, x < n → f x = f' x) : LLx z H a n f' := by
  obtain ⟨g, h1, h2⟩ := h
  exact ⟨g, h1, fun x hx => ⟨(h2 x hx).1, (h2 x hx).2.1, by rw [← e x hx]; exact (h2 x hx).2.2⟩⟩
/-- z itself is written -/
theorem LLx.aside {z : Addr} {H : Hp} {a : Addr} {n : Nat} {f : Nat → List Nat} {o : HO} (h : LLx z H a n f) (az : a ≠ z) : LLx z (upd H z o) a n f := by
  obtain ⟨g, h1, h2⟩ := h
  refine ⟨g, by rw [upd_ne az]; exact h1, fun x hx => ⟨(h2 x hx).1, (h2 x hx).2.1, ?_⟩⟩
  unfold LN
  rw [upd_ne (h2 x hx).2.1]
  exact (h2 x hx).2.2
/-- an item is replaced -/
theorem LLx.put {z : Addr} {H : Hp} {a q : Addr} {n x : Nat} {f : Nat → List Nat} {l : List Nat} {g : Nat → Addr} (h1 : H a = some (.lst ((List.range n).map fun x => V.ref (g x)))) (h2 : ∀ x, x < n → g x ≠ a ∧ g x ≠ z ∧ LN H (g x) (f x))
    (hx : x < n) (hq : q ≠ a) (hqz : q ≠ z) (hl : LN H q l) : LLx z (upd H a (.lst (((List.range n).map fun x => V.ref (g x)).set x (.ref q)))) a n (fun y => if y = x then l else f y) := by
  refine ⟨fun y => if y = x then q else g y, ?_, fun y hy => ?_⟩
  · rw [upd_same, range_set hx]
    congr 3
    funext y
    by_cases e : y = x
    · simp only [if_pos e]
    · simp only [if_neg e]
  · by_cases e : y = x
    · simp only [if_pos e]
      refine ⟨hq, hqz, ?_⟩
      unfold LN
      rw [upd_ne hq]
      exact hl
    · simp only [if_neg e]
      refine ⟨(h2 y hy).1, (h2 y hy).2.1, ?_⟩
      unfold LN
      rw [upd_ne (h2 y hy).1]
      exact (h2 y hy).2.2
/-- what is free behind was free ahead -/
theorem But.fresh {a b : Addr} {H H' : Hp} {o : HO} (h : But a H H') (ha : H' a = some o) (hb : H' b = none) : H b = none := by
  cases hz : H b with
  | none => rfl
  | some u =>
    exfalso
    by_cases q : b = a
    · rw [q, ha] at hb; cases hb
    · rw [h b u q hz] at hb; cases hb
/-- lists of lists and lists of numbers are never one -/
theorem LL.ne {H : Hp} {a b : Addr} {n x : Nat} {f : Nat → List Nat} {l : List Nat} (h : LL H a n f) (hx : x < n) (hl : LN H b l) : b ≠ a := by
  obtain ⟨g, h1, _⟩ := h
  refine ne_of hl h1 fun e => ?_
  have e' := HO.lst.inj e
  obtain ⟨m, rfl⟩ : ∃ m, n = m + 1 := ⟨n - 1, by omega⟩
  rw [List.range_succ_eq_map] at e'
  cases l with
  | nil => cases e'
  | cons y r =>
    have := (List.cons.inj e').1
    cases this
theorem LL.but {H H' : Hp} {a b : Addr} {n : Nat} {f f' : Nat → List Nat} (h : LL H b n f') (k : LL H a n f) (hab : b ≠ a) (hb : But a H H') : LL H' b n f' := by
  obtain ⟨g, h1, h2⟩ := id h
  exact ⟨g, hb _ _ hab h1, fun x hx => ⟨(h2 x hx).1, hb _ _ (k.ne hx (h2 x hx).2) (h2 x hx).2⟩⟩
/-- the sets held: places, each once -/
def Held (n : Nat) (h : Nat → List Nat) : Prop := ∀ x, x < n → (h x).Nodup ∧ ∀ y ∈ h x, y < n
theorem Held.size {n x : Nat} {h : Nat → List Nat} (k : Held n h) (hx : x < n) : (h x).length ≤ n := by
  have := nodup_sub_length (k x hx).1 (m := List.range n) fun y hy => List.mem_range.2 ((k x hx).2 y hy)
  rwa [List.length_range] at this
theorem Held.put {n x : Nat} {h : Nat → List Nat} {l m r : List Nat} (k : Held n h) (hl : ∀ y ∈ l, y < n) (hm : ∀ y ∈ m, y < n) (hr : IsJoint l m r) : Held n (fun z => if z = x then r else h z) := by
  intro z hz
  by_cases e : z = x
  · simp only [if_pos e]
    exact ⟨hr.up.nodup, fun y hy => ((hr.mem y).1 hy).elim (hl y) (hm y)⟩
  · simp only [if_neg e]
    exact k z hz
/-- the steps of folding, as a list of pairs; m of them -/
def Stp (H0 H : Hp) (st nr : Addr) (n m : Nat) : Prop :=
  ∃ (g h : Nat → Addr) (k : Nat → Nat) (N : Nat → List Nat), H st = some (.lst ((List.range m).map fun x => V.ref (g x))) ∧ ∀ i, i < m → H0 (h i) = none ∧ h i ≠ st ∧ h i ≠ nr ∧ k i < n ∧ Up (N i) ∧ (∀ y ∈ N i, y < n) ∧
    H (g i) = some (.tup [.int (k i : Int), .ref (h i)]) ∧ LN H (h i) (N i)
theorem Stp.ex {H0 H H' : Hp} {st nr : Addr} {n m : Nat} (s : Stp H0 H st nr n m) (e : Ex H H') : Stp H0 H' st nr n m := by
  obtain ⟨g, h, k, N, h1, h2⟩ := s
  refine ⟨g, h, k, N, e _ _ h1, fun i hi => ?_⟩
  obtain ⟨a1, a2, a3, a4, a5, a6, a7, a8⟩ := h2 i hi
  exact ⟨a1, a2, a3, a4, a5, a6, e _ _ a7, a8.ex e⟩
/-- what is not st stays as it was -/
theorem Stp.aside {H0 H : Hp} {st nr : Addr} {n m : Nat} {xs : List V} {o : HO} (s : Stp H0 H st nr n m) (hs : st ≠ nr) (hn : H nr = some (.lst xs)) : Stp H0 (upd H nr o) st nr n m := by
  obtain ⟨g, h, k, N, h1, h2⟩ := s
  refine ⟨g, h, k, N, by rw [upd_ne hs]; exact h1, fun i hi => ?_⟩
  obtain ⟨a1, a2, a3, a4, a5, a6, a7, a8⟩ := h2 i hi
  refine ⟨a1, a2, a3, a4, a5, a6, ?_, ?_⟩
  · rw [upd_ne (ne_of a7 hn fun e => by cases e)]
    exact a7
  · unfold LN
    rw [upd_ne a3]
    exact a8
theorem range_snoc_refs {m : Nat} {g : Nat → Addr} {p : Addr} : ((List.range m).map fun x => V.ref (g x)) ++ [V.ref p] = (List.range (m + 1)).map fun x => V.ref (if x = m then p else g x) := by
  rw [List.range_succ, List.map_append]
  congr 1
  · apply List.map_congr_left
    intro z hz
    rw [List.mem_range] at hz
    have : ¬ z = m := by omega
    simp only [if_neg this]
  · simp
/-- beside another list that was there ahead -/
theorem Stp.by {H0 H : Hp} {st nr z : Addr} {n m : Nat} (s : Stp H0 H st nr n m) (hz : ∀ i, H0 i = none → i ≠ z) : Stp H0 H st z n m := by
  obtain ⟨g, h, k, N, h1, h2⟩ := s
  refine ⟨g, h, k, N, h1, fun i hi => ?_⟩
  obtain ⟨a1, a2, a3, a4, a5, a6, a7, a8⟩ := h2 i hi
  exact ⟨a1, a2, hz _ a1, a4, a5, a6, a7, a8⟩
/-- beside a list that was not there yet -/
theorem Stp.new {H0 H : Hp} {st nr z : Addr} {n m : Nat} (s : Stp H0 H st nr n m) (hz : H z = none) : Stp H0 H st z n m := by
  obtain ⟨g, h, k, N, h1, h2⟩ := s
  refine ⟨g, h, k, N, h1, fun i hi => ?_⟩
  obtain ⟨a1, a2, a3, a4, a5, a6, a7, a8⟩ := h2 i hi
  exact ⟨a1, a2, ne_of_none a8 hz, a4, a5, a6, a7, a8⟩
/-- one more -/
theorem Stp.snoc {H0 H H2 : Hp} {st nr t c : Addr} {n m v : Nat} {L : List Nat} (s : Stp H0 H st nr n m) (e : Ex H H2) {ys : List V} (hst : H2 st = some (.lst ys)) (ht : H2 t = some (.tup [.int (v : Int), .ref c])) (hc : LN H2 c L) (c0 : H0 c = none) (cs : c ≠ st) (cn : c ≠ nr) (hv : v < n) (hu : Up L) (hl : ∀ y ∈ L, y < n) :
    ∃ xs, H st = some (.lst xs) ∧ xs.length = m ∧ Stp H0 (upd H2 st (.lst (xs ++ [.ref t]))) st nr n (m + 1) := by
  obtain ⟨g, h, k, N, h1, h2⟩ := s
  refine ⟨_, h1, by simp, fun x => if x = m then t else g x, fun x => if x = m then c else h x, fun x => if x = m then v else k x, fun x => if x = m then L else N x, ?_, fun i hi => ?_⟩
  · rw [upd_same, range_snoc_refs]
  · by_cases q : i = m
    · simp only [if_pos q]
      refine ⟨c0, cs, cn, hv, hu, hl, ?_, ?_⟩
      · rw [upd_ne (ne_of ht hst fun e => by cases e)]
        exact ht
      · unfold LN
        rw [upd_ne cs]
        exact hc
    · simp only [if_neg q]
      obtain ⟨a1, a2, a3, a4, a5, a6, a7, a8⟩ := h2 i (by omega)
      refine ⟨a1, a2, a3, a4, a5, a6, ?_, ?_⟩
      · rw [upd_ne (ne_of (e _ _ a7) hst fun e => by cases e)]
        exact e _ _ a7
      · unfold LN
        rw [upd_ne a2]
        exact a8.ex e
end Bw
/-! ### W3 -/
namespace Bw
open PySem PySem.Spec PyProof.Rows L2
theorem andN (a b : Nat) : Builtin.bitAnd (a : Int) (b : Int) = ((a &&& b : Nat) : Int) := by
  unfold Builtin.bitAnd
  have h1 : decide ((0 : Int) ≤ (a : Int)) = true := decide_eq_true (by omega)
  have h2 : decide ((0 : Int) ≤ (b : Int)) = true := decide_eq_true (by omega)
  rw [h1, h2]
  rfl
theorem orN (a b : Nat) : Builtin.bitOr (a : Int) (b : Int) = ((a ||| b : Nat) : Int) := by
  unfold Builtin.bitOr Builtin.bitAnd Builtin.bitNot
  have h1 : decide ((0 : Int) ≤ -(a : Int) - 1) = false := decide_eq_false (by omega)
  have h2 : decide ((0 : Int) ≤ -(b : Int) - 1) = false := decide_eq_false (by omega)
  rw [h1, h2]
  have e1 : (-(-(a : Int) - 1) - 1).toNat = a := by omega
  have e2 : (-(-(b : Int) - 1) - 1).toNat = b := by omega
  simp only [Builtin.bitNot, e1, e2]
  omega
theorem bitTest (m v : Nat) : decide (V.int (Builtin.bitAnd ((m : Int) / 2 ^ (v : Int).toNat) 1) = V.int 1) = m.testBit v := by
  have e : ((m : Int) / 2 ^ (v : Int).toNat) = ((m / 2 ^ v : Nat) : Int) := by
    rw [Int.toNat_natCast]
    simp
  have e1 : Builtin.bitAnd ((m / 2 ^ v : Nat) : Int) ((1 : Nat) : Int) = (((m / 2 ^ v) &&& 1 : Nat) : Int) := andN _ _
  have e2 : ((1 : Nat) : Int) = 1 := rfl
  rw [e2] at e1
  rw [e, e1, Nat.and_one_is_mod, Nat.testBit_eq_decide_div_mod_eq]
  by_cases h : m / 2 ^ v % 2 = 1
  · rw [decide_eq_true h, h]
    rfl
  · rw [decide_eq_false h]
    refine decide_eq_false fun q => h ?_
    have := V.int.inj q
    omega
theorem lowBit : ∀ m : Nat, m < 128 → 0 < m → ∃ k, k < 7 ∧ m.testBit k = true ∧ Builtin.bitAnd (m : Int) (-(m : Int)) = ((2 ^ k : Nat) : Int) := by
  decide +kernel
theorem shl1 (v : Nat) : (1 : Int) * 2 ^ (v : Int).toNat = ((2 ^ v : Nat) : Int) := by
  rw [Int.toNat_natCast, Int.one_mul]
  simp
section
variable {K : PySem.W.Frag} {σ : L2.St} {H : Hp} {te : TE}
/-- each number of a list turned -/
theorem el_map {a : Addr} {l : List Nat} {tl : TE} {j : Nat} {vs : List Nat} (g : Nat → Nat) (h : Evl.Ev tl σ H (.ref a)) (hx : SqL K H a (vN l)) (hz : l.length ≤ 40000) (hw : ∀ x, wipe ((wipe σ vs).set j (some x)) vs = wipe σ vs)
    (he : ∀ (x : Nat) H1, Ex H H1 → x ∈ l → Evl.Ev te ((wipe σ vs).set j (some (.int (x : Int)))) H1 (.int (g x : Int))) :
    Evl.EvL (tLc (iList K tl) (gName j) tYes te vs) σ H (vN (l.map g)) := by
  have k := Evl.el_lcL (t := tYes) (te := te) (fun _ => true) (fun i => V.int ((g (l.getD i 0) : Nat) : Int)) h hx (by rw [vN_len]; exact hz) hw (fun i x H1 e hi => fun H2 _ Q' k => k H2 (Evl.Ex.refl H2)) (fun i x H1 e hi _ => by
    have hil : i < l.length := by have := (List.getElem?_eq_some_iff.1 hi).1; rwa [vN_len] at this
    have e1 := vN_get (List.getElem?_eq_getElem hil)
    rw [hi] at e1
    cases e1
    have e2 : l.getD i 0 = l[i] := by rw [List.getD_eq_getElem?_getD, List.getElem?_eq_getElem hil]; rfl
    rw [e2]
    exact he l[i] H1 e (List.getElem_mem hil))
  rw [vN_len, given_all] at k
  have e : (List.range l.length).map (fun i => V.int ((g (l.getD i 0) : Nat) : Int)) = vN (l.map g) := by
    apply List.ext_getElem?
    intro i
    by_cases hi : i < l.length
    · rw [range_get hi, vN_get (x := g l[i]) (by rw [List.getElem?_map, List.getElem?_eq_getElem hi]; rfl), List.getD_eq_getElem?_getD, List.getElem?_eq_getElem hi]
      rfl
    · rw [List.getElem?_eq_none (by simpa using hi), List.getElem?_eq_none (by rw [vN_len, List.length_map]; omega)]
  rw [e] at k
  exact k
end
theorem pow7 {k n : Nat} (h : k ≤ n) (hn : n ≤ 7) : 2 ^ k ≤ 128 := by
  have := Nat.pow_le_pow_right (n := 2) (by decide) (Nat.le_trans h hn)
  exact this
end Bw
/-! ### R1 -/
namespace Bw
open PySem PySem.Spec PyProof.Rows L2
section
variable {pg : Program} {w : World} {A : Around} {E : Value → Shared → Prop} {s : Shared}
abbrev emptyL : Obj := { cls := .type "list", data := .seq #[] }
/-- list's own __init__ over a backward walk of a list -/
theorem init_back {R : Result → Shared → Prop} {it l z : Addr} {items : Array Value} (hh : A.handled = none) (hit : s.heap.IsRevIter it l ((items.size : Int) - 1)) (hl : s.heap.IsList l items) (hne : l ≠ it) (hn : items.size ≤ sizeLine)
    (hz : s.heap.get? z = some emptyL) (hzi : z ≠ it) (hzl : z ≠ l)
    (hR : ∀ (h' : Heap) (tk : Nat) (acc : Array Value) (c : Nat), (∀ b o, b ≠ z → b ≠ it → s.heap.get? b = some o → h'.get? b = some o) → h'.get? z = some { cls := .type "list", dict := none, data := .seq acc c, slots := #[] } →
      ItemsOf (fun i v => items[items.size - 1 - i]? = some v) acc items.size → R (.ok (.ret .none)) { s with heap := h', toks := tk }) :
    wpAny (model pg w) A.in1 (Builtin.«list.__init__» ⟨[.ref z, .ref it], []⟩)
      (fun fin s' => match fin with | .done f => R (.ok f) s' | .again c' => c'.quiet = true ∧ codeAny (model pg w) A c' R s') (fun e s' => R (.error e) s') s := by
  show wpAny _ _ (Builtin.List.listItems (.ref z) >>= fun old => Builtin.List.listUpdate (.ref z) (fun _ => #[]) >>= fun _ => letGo old.toList.reverse >>= fun _ => Builtin.List.listExtendWith (.ref z) (.ref it) .none) _ _ s
  refine wpAny_bind ?_
  unfold Builtin.List.listItems
  refine wpAny_bind (wpAny_seqItems hz rfl (wpAny_pure ?_))
  refine wpAny_bind (m := updateSeq z (fun _ => #[])) (wpAny_updateSeq hz rfl ?_)
  have hz2 := Heap.get?_update_self (Obj.mapSeq (fun _ => (#[] : Array Value))) hz rfl
  have oth : ∀ b o, b ≠ z → s.heap.get? b = some o → (s.heap.update z (Obj.mapSeq (fun _ => (#[] : Array Value)))).get? b = some o := fun b o hb e => by
    rw [Heap.get?_update_other _ _ (Ne.symm hb)]
    exact e
  refine wpAny_bind (wpAny_letGo ?_)
  generalize hs2 : ({ s with heap := s.heap.update z (Obj.mapSeq (fun _ => (#[] : Array Value))) } : Shared) = s2
  have hit2 : s2.heap.IsRevIter it l ((items.size : Int) - 1) := by rw [← hs2]; exact hit.at fun o e => oth it o (Ne.symm hzi) e
  have hl2 : s2.heap.IsList l items := by
    obtain ⟨ol, q, r⟩ := hl
    rw [← hs2]
    exact ⟨ol, oth l ol (Ne.symm hzl) q, r⟩
  have hT : s2.TypeIs (.ref it) "list_reverseiterator" := Heap.IsRevIter.typeIs hit2
  have hz3 : ∃ c0, s2.heap.get? z = some { cls := .type "list", dict := none, data := .seq #[] c0, slots := #[] } := ⟨_, by rw [← hs2]; exact hz2⟩
  obtain ⟨c0, hz3⟩ := hz3
  have W := (Walks.listRev (prog := pg) (w := w) (A := A.in1) hh it l hne items).toS
  have hzf : z ∉ [it, l] := by
    simp only [List.mem_cons, List.not_mem_nil, or_false, not_or]
    exact ⟨hzi, hzl⟩
  unfold Builtin.List.listExtendWith
  refine wpAny_bind (wpAny_typeOf hT ?_)
  have hsame : Builtin.List.listSameRef (.ref z) (.ref it) = false := by simp [Builtin.List.listSameRef, hzi]
  rw [if_neg (by rw [hsame]; decide)]
  refine wpAny_bind (wpAny_pyIter_revIter (s := s2) hit2 ?_)
  refine wpAny_bind (wpAny_holding ?_)
  unfold Builtin.List.listLengthHint
  refine wpAny_bind (wpAny_specialOf hT RT.nolen_lri ?_)
  show wpAny _ A.in1 ((specialOf (Value.ref it) (Str.ofString "__length_hint__")) >>= _) _ _ _
  refine wpAny_bind (wpAny_specialOf hT RT.hint_lri ?_)
  generalize hid : ("list_reverseiterator.__length_hint__" : String) = nm
  wp_delta
  rw [show splitId nm = some ("list_reverseiterator", "__length_hint__") from (by subst hid; decide +kernel)]
  subst hid
  refine wpAny_bind (wpAny_isInstance (b := true) hT (by (rw [isSubtype_type]); kernel_rfl) ?_)
  refine wpAny_pure ?_
  rw [if_neg (by decide)]
  have ez : ((items.size : Nat) : Int) - 1 - ((0 : Nat) : Int) = (items.size : Int) - 1 := by omega
  refine wpAny_pure ⟨plainId_quiet F.plain_extend_loop _, codeAny_extend_loopS W hn _ hzf _ items.size 0 _ _ _ rfl (Nat.zero_le _) ⟨Nat.zero_le _, by rw [ez]; exact hit2, hl2⟩ hz3 (ItemsOf.nil _) fun s' acc c hm hS' hacc => ?_⟩
  have hh2 := hR s'.heap s'.toks acc c (fun b o hb hbi e => hm.heap b o (fun hmem => ?_) (by rw [← hs2]; exact oth b o hb e)) hS' hacc
  · have := Moved.eq_with hm
    rw [← hs2] at this
    rw [this]
    exact hh2
  · rcases List.mem_cons.mp hmem with q | q
    · exact hb q
    · exact hbi (List.mem_singleton.mp q)

theorem call_list_back {it l : Addr} {items : Array Value} {Q : Value → Shared → Prop} (hh : A.handled = none) (hit : s.heap.IsRevIter it l ((items.size : Int) - 1)) (hl : s.heap.IsList l items) (hne : l ≠ it) (hn : items.size ≤ sizeLine)
    (hQ : ∀ (h' : Heap) (tk : Nat) (acc : Array Value) (c : Nat), (∀ b o, b ≠ it → s.heap.get? b = some o → h'.get? b = some o) → h'.get? s.heap.objs.size = some { cls := .type "list", dict := none, data := .seq acc c, slots := #[] } →
      ItemsOf (fun i v => items[items.size - 1 - i]? = some v) acc items.size → Q (.ref s.heap.objs.size) { s with heap := h', toks := tk }) :
    wpAny (model pg w) A (call (.type "list") [.ref it]) Q E s := by
  obtain ⟨oi, hoi, _⟩ := id hit
  obtain ⟨ol, hol, _⟩ := id hl
  refine callType_codes (Q₁ := fun obj s₁ => obj = .ref s.heap.objs.size ∧ s₁ = { s with heap := s.heap.push emptyL }) F.called_list (F.typeCall_list_1 _) F.entry_list_init (code_list_new _ ⟨rfl, rfl⟩) fun obj s₁ h₁ => ?_
  obtain ⟨rfl, rfl⟩ := h₁
  have hz : (s.heap.push emptyL).get? s.heap.objs.size = some emptyL := Heap.get?_push_size _ rfl
  refine ⟨⟨_, hz, rfl⟩, F.args_list_init_2 _ _, init_back (s := { s with heap := s.heap.push emptyL }) (A := A.in1) hh (hit.at fun o e => Heap.get?_push_of_some _ e) (hl.push _) hne hn hz
    (Nat.ne_of_gt (Heap.lt_size hoi)) (Nat.ne_of_gt (Heap.lt_size hol)) fun h' tk acc c hk hS hacc => ?_⟩
  exact ⟨rfl, hQ h' tk acc c (fun b o hb e => hk b o (Nat.ne_of_lt (Heap.lt_size e)) hb (Heap.get?_push_of_some _ e)) hS hacc⟩
end
/-- list(reversed(x)), x a list: a new list -/
def tListBack (K : PySem.W.Frag) (te : TE) : TE := fun σ H Q => te σ H fun v H1 => ∃ (a : Addr) (xs : List V), v = .ref a ∧ SqL K H1 a xs ∧ ∀ q, H1 q = none → Q (.ref q) (upd H1 q (.lst xs.reverse))
section
variable {X : Cx}
theorem pe_listRev {e : Expr} {te : TE} {p p2 pos pos2 : Pos} (hc : X.calm = true) (hg : Gl X "list") (hm : X.mg "list" = none) (hg2 : Gl X "reversed") (hm2 : X.mg "reversed" = none) (he : PE X e te)
    (hs : starEach [e] X.env = (false, eval e X.env) :: starEach [] X.env := by rfl)
    (hs2 : starEach [.Call (.Name "reversed" p2) [e] [] pos2] X.env = (false, eval (.Call (.Name "reversed" p2) [e] [] pos2) X.env) :: starEach [] X.env := by rfl) :
    PE X (.Call (.Name "list" p) [.Call (.Name "reversed" p2) [e] [] pos2] [] pos) (tListBack X.K te) := by
  constructor
  intro pins s σ H Q I h
  refine Call_ (ld_blt I hg hm boot_list (PyProof.Rows.callWith_type1 (args_cons (Call_ (ld_blt I hg2 hm2 PyProof.Rows.boot_reversed (PyProof.Rows.callWith_type1 (args_cons (thn (he.run pins s σ H _ I h) fun u t ⟨v, H1, I1, r1, q1⟩ => args_nil ?_) hs) hs rfl))) hs2) hs2 rfl))
  obtain ⟨a, xs, ev, hq, q⟩ := q1
  subst ev
  obtain rfl : u = Value.ref a := r1
  obtain ⟨its, rv, p', hz⟩ := I1.list hq
  refine call_reversed_list p'.isList (args_nil ?_)
  have keep : ∀ b o, t.heap.get? b = some o → (t.heap.push (revObj a ((its.toArray.size : Int) - 1))).get? b = some o := fun b o z => Heap.get?_push_of_some _ z
  have I2 : Inv X pins σ H1 { t with heap := t.heap.push (revObj a ((its.toArray.size : Int) - 1)) } := I1.kept (t' := t.toks) keep
  obtain ⟨f0, f1, f2, f3, f4, f5⟩ := I1.fpOk (H' := H1) (b := t.heap.objs.size) (Nat.le_refl _) (I1.hok.fresh (Nat.le_refl _))
  have hl := p'.isList
  obtain ⟨ol, hol, _⟩ := id hl
  have hne : a ≠ t.heap.objs.size := Nat.ne_of_lt (Heap.lt_size hol)
  have hn : its.toArray.size ≤ sizeLine := by (rw [List.size_toArray, ← rv.length]); exact hz
  have hi0 : (t.heap.push (revObj a ((its.toArray.size : Int) - 1))).IsRevIter t.heap.objs.size a ((its.toArray.size : Int) - 1) := ⟨_, Heap.get?_push_size _ rfl, rfl, rfl⟩
  have hsz : (t.heap.push (revObj a ((its.toArray.size : Int) - 1))).objs.size = t.heap.objs.size + 1 := Heap.size_push ..
  refine call_list_back (s := { t with heap := t.heap.push (revObj a ((its.toArray.size : Int) - 1)) }) (I1.ok.hd hc) hi0 (hl.push _) hne hn fun h' tk acc c hk hS hi => ?_
  rw [hsz] at hS ⊢
  have hn0 : H1 (t.heap.objs.size + 1) = none := I2.hok.fresh (by rw [hsz]; exact Nat.le_refl _)
  have lt' : ∀ b o, (t.heap.push (revObj a ((its.toArray.size : Int) - 1))).get? b = some o → b ≠ t.heap.objs.size + 1 := fun b o z => by
    have := Heap.lt_size z
    rw [hsz] at this
    exact Nat.ne_of_lt this
  have nit : ∀ b, b ∉ [t.heap.objs.size] → b ≠ t.heap.objs.size := fun b hb => by simpa using hb
  have trk : ∀ b u, H1 b = some u → b ≠ t.heap.objs.size := fun b u z => ne_of_none z f0
  have hok : HOk X.prog X.w (upd H1 (t.heap.objs.size + 1) (.lst xs.reverse)) h' := by
    intro b u z
    by_cases hb : b = t.heap.objs.size + 1
    · rw [hb, upd_same] at z
      cases z
      rw [hb]
      exact ⟨by rw [List.length_reverse]; exact hz, acc.toList, c, RT.vals_rev rv hi, by rw [Array.toArray_toList]; exact hS⟩
    · rw [upd_ne hb] at z
      refine (I2.hok b u z).stay (fun d v hd k => hk d v ?_ k) (fun d k => by rw [upd_ne (ne_of_none k hn0)]; exact k) (fun d ys k => by rw [upd_ne (ne_of_none k hn0)]; exact k)
      rcases hd with hd | hd
      · rw [hd]; exact trk b u z
      · exact trk d _ hd
  have un : Un (frs X.stack) [t.heap.objs.size] H1 (upd H1 (t.heap.objs.size + 1) (.lst xs.reverse)) (t.heap.push (revObj a ((its.toArray.size : Int) - 1))) h' := by
    refine ⟨fun b o z _ _ hx => hk b o (nit b hx) z, fun b o z _ _ hx => ⟨o.slots, hk b o (nit b hx) z⟩, fun b o z hb _ => by rw [upd_ne (lt' b o z)]; exact hb, fun b o z hx => ⟨o, hk b o (nit b hx) z⟩,
      fun b ys z => by rw [upd_ne (ne_of_none z hn0)]; exact z, fun b o ys z => by rw [upd_ne (ne_of_none z hn0)]; exact z, fun b ps z => ⟨#[], by rw [upd_ne (ne_of_none z hn0), z]; simp⟩⟩
  refine ⟨.ref (t.heap.objs.size + 1), upd H1 (t.heap.objs.size + 1) (.lst xs.reverse), ?_, rfl, q _ hn0⟩
  refine I2.call' (ch := [t.heap.objs.size]) rfl un hok I2.bare fun b hb => ?_
  rw [List.mem_singleton] at hb
  rw [hb]
  exact ⟨f3, f1, f4, f5⟩
end
end Bw
/-! ### R2 -/
namespace Bw
open PySem PySem.Spec PyProof.Rows L2
theorem first_ok (f : Nat → Int) : ∀ n, (PyProof.Rows.firstMet f n).Nodup ∧ ∀ z, z ∈ PyProof.Rows.firstMet f n ↔ ∃ i, i < n ∧ f i = z
  | 0 => ⟨List.nodup_nil, fun z => ⟨fun h => (nomatch h), fun ⟨i, h, _⟩ => absurd h (Nat.not_lt_zero i)⟩⟩
  | n + 1 => by
    obtain ⟨h1, h2⟩ := first_ok f n
    rw [PyProof.Rows.firstMet_succ]
    have ed : PyProof.Rows.step_dedup (PyProof.Rows.firstMet f n) (f n) = if (PyProof.Rows.firstMet f n).any (· == f n) then PyProof.Rows.firstMet f n else PyProof.Rows.firstMet f n ++ [f n] := rfl
    rw [ed]
    by_cases hc : ((PyProof.Rows.firstMet f n).any (· == f n)) = true
    · have hin : f n ∈ PyProof.Rows.firstMet f n := by
        obtain ⟨y, hy, e⟩ := List.any_eq_true.mp hc
        rw [← eq_of_beq e]; exact hy
      rw [if_pos hc]
      refine ⟨h1, fun z => ?_⟩
      rw [h2]
      constructor
      · rintro ⟨i, hi, e⟩; exact ⟨i, by omega, e⟩
      · rintro ⟨i, hi, e⟩
        by_cases q : i = n
        · rw [q] at e
          rw [e] at hin
          exact (h2 z).1 hin
        · exact ⟨i, by omega, e⟩
    · have hin : f n ∉ PyProof.Rows.firstMet f n := fun q => hc (List.any_eq_true.mpr ⟨f n, q, beq_self_eq_true _⟩)
      rw [if_neg hc]
      refine ⟨?_, fun z => ?_⟩
      · rw [List.nodup_append]
        exact ⟨h1, by simp, fun a ha b hb e => by rw [List.mem_singleton] at hb; exact hin (by rw [← hb, ← e]; exact ha)⟩
      · rw [List.mem_append, List.mem_singleton, h2]
        constructor
        · rintro (⟨i, hi, e⟩ | e)
          · exact ⟨i, by omega, e⟩
          · exact ⟨n, by omega, e.symm⟩
        · rintro ⟨i, hi, e⟩
          by_cases q : i = n
          · rw [q] at e; exact .inr e.symm
          · exact .inl ⟨i, by omega, e⟩
/-- len(set(x)), x a list of ints: how many unlike ones -/
def tLenSetN (K : PySem.W.Frag) (ta : TE) : TE := fun σ H Q => ta σ H fun x H1 => ∃ (l : Addr) (ns : List Int), x = .ref l ∧ SqL K H1 l (ns.map V.int) ∧ ns.length ≤ 4000 ∧
  ∀ out : List Int, out.Nodup → (∀ k, k ∈ out ↔ k ∈ ns) → Q (.int (out.length : Nat)) H1
theorem pe_lenSetN {X : Cx} {a : Expr} {ta : TE} {p p2 q pos : Pos} (hg : Gl X "len") (hm : X.mg "len" = none) (hg2 : Gl X "set") (hm2 : X.mg "set" = none) (ha : PE X a ta) (hc : X.calm = true := by rfl)
    (na : starEach [a] X.env = (false, eval a X.env) :: starEach [] X.env := by rfl) : PE X (.Call (.Name "len" p) [.Call (.Name "set" p2) [a] [] q] [] pos) (tLenSetN X.K ta) := by
  constructor
  intro pins s σ H Q I h
  refine Call_ (ld_blt I hg hm PySem.boot_len ?_)
  refine PyProof.Rows.callWith_builtin1 (PyProof.Rows.args_cons ?_ rfl) rfl rfl
  refine Call_ (ld_blt I hg2 hm2 PyProof.Rows.boot_set ?_)
  refine PyProof.Rows.callWith_type1 (PyProof.Rows.args_cons (thn (ha.run pins s σ H _ I h) fun v t ⟨x, H1, I1, r1, q1⟩ => PyProof.Rows.args_nil ?_) na) na rfl
  obtain ⟨l, ns, rfl, hq, hl, q1⟩ := q1
  cases r1
  obtain ⟨its, r, pl, hz⟩ := I1.list hq
  have hlen : its.toArray.size = ns.length := by rw [List.size_toArray, ← r.length, List.length_map]
  refine call_set_list (I1.ok.hd hc) pl.isList (by simpa using RZ.intsAre_vals r) (by rw [hlen]; unfold scanBound; omega) fun h' tk hS hk => ?_
  refine PyProof.Rows.args_nil ?_
  rw [hlen] at hS
  obtain ⟨f1, f2⟩ := first_ok (fun i => ns.getD i 0) ns.length
  generalize hout : PyProof.Rows.firstMet (fun i => ns.getD i 0) ns.length = out at hS f1 f2
  have hol : out.length ≤ ns.length := by
    refine nodup_sub_len f1 fun z hz => ?_
    obtain ⟨i, hi, e⟩ := (f2 z).1 hz
    have e' : ns.getD i 0 = z := e
    rw [List.getD_eq_getElem?_getD, List.getElem?_eq_getElem hi] at e'
    rw [← e']
    exact List.getElem_mem hi
  obtain ⟨o, es, ep, tb, ho, hex, hd, _, _, _, hf, hn⟩ := hS
  have I2 : Inv X pins σ H1 { t with heap := h', toks := tk } := I1.kept fun b o e => hk b o (Heap.lt_size e) e
  refine call_len_set ho hex hd hf (by rw [hn] <;> omega) ⟨.int out.length, H1, I2.tok _, ⟨_, by rw [hn]⟩, q1 out f1 fun k => ?_⟩
  rw [f2]
  constructor
  · rintro ⟨i, hi, e⟩
    have e' : ns.getD i 0 = k := e
    rw [List.getD_eq_getElem?_getD, List.getElem?_eq_getElem hi] at e'
    rw [← e']
    exact List.getElem_mem hi
  · intro hk2
    obtain ⟨i, hi, e⟩ := List.getElem_of_mem hk2
    refine ⟨i, hi, ?_⟩
    show ns.getD i 0 = k
    rw [List.getD_eq_getElem?_getD, List.getElem?_eq_getElem hi]
    exact e
end Bw
/-! ### D_less -/
namespace Bw
open PySem PySem.Spec PyProof.Rows L2
section
variable {P : Program} {w : World} {K : PySem.W.Frag} {mg : Str → Option Value} {base : Heap}
def sp_less : Sp := fun vs H Q _ => ∃ (a b : Addr) (l m : List Nat), vs = [.ref a, .ref b] ∧ LN H a l ∧ LN H b m ∧ l.length ≤ 1000 ∧ ∀ p H', H p = none → Ex H H' → LN H' p (lessL l m) → Q (.ref p) H'
theorem ok_less (L_less : Df K mg "less" s_less P_less) (B : Bi mg) : FnOk P w K mg base CX0 1 L_less.f L_less.fd P_less sp_less := by
  refine L_less.F.ok sc_less (fun vs H Q E h => ?_) (fun cdv A outer s H vs Q E hr h => ?_)
  · obtain ⟨a, b, l, m, rfl, _⟩ := h
    rfl
  · obtain ⟨a, b, l, m, rfl, ha, hb, hl, q⟩ := h
    refine ⟨_, (pss_one (ps_ret (pe_lc (own := [("place", 2)]) (g := gName 2) (by rfl) sc_less.nd (pi_list (pv 0)) (blkOk_by (own := [("place", 2)]) (N := N_less) (sc := defScope s_less) (by decide +kernel)) (fun _ _ _ _ _ => pg_name (i := 2) sc_less.nd rfl (Or.inl rfl)) (fun _ _ _ _ _ => (pts_one (pt_cmpR (kNotIn (K := K)) (pv 2) (pv 1) (by rfl)))) (fun _ _ _ _ _ => (pv 2))))), ?_⟩
    refine Evl.s_retL (xs := vN (lessL l m)) ?_ (fun p H1 np e h1 => q p H1 np e h1)
    refine el_filter (K := K) (fun x => !m.contains x) (Evl.ev_var rfl) ha.seq (by omega) (fun _ => rfl) (fun x H1 e _ => ?_) (fun x H1 => Evl.ev_var rfl)
    have g := Evl.et_test (Evl.ev_op (ta := tVar 2) (tb := tVar 1) (σ := (wipe (start N_less [.ref a, .ref b]) [2]).set 2 (some (.int (x : Int)))) (H := H1) (Evl.ev_var rfl) (Evl.ev_var rfl) (Evl.rv_niL (K := K) (hb.ex e).seq rfl (vN_flat m)))
    rw [inV_vN] at g
    exact g
end
end Bw
/-! ### D_joint -/
namespace Bw
open PySem PySem.Spec PyProof.Rows L2
section
variable {P : Program} {w : World} {K : PySem.W.Frag} {mg : Str → Option Value} {base : Heap}
def sp_joint : Sp := fun vs H Q _ => ∃ (a b : Addr) (l m : List Nat), vs = [.ref a, .ref b] ∧ LN H a l ∧ LN H b m ∧ l.length ≤ 1000 ∧ m.length ≤ 1000 ∧ l.Nodup ∧ m.Nodup ∧
  ∀ p H' r, H p = none → Ex H H' → LN H' p r → IsJoint l m r → Q (.ref p) H'
theorem ok_joint (L_joint : Df K mg "joint" s_joint P_joint) (L_less : Df K mg "less" s_less P_less) (B : Bi mg) : FnOk P w K mg base CX0 2 L_joint.f L_joint.fd P_joint sp_joint := by
  have G_less := ok_less (P := P) (w := w) (base := base) L_less B
  refine L_joint.F.ok sc_joint (fun vs H Q E h => ?_) (fun cdv A outer s H vs Q E hr h => ?_)
  · obtain ⟨a, b, l, m, rfl, _⟩ := h
    rfl
  · obtain ⟨a, b, l, m, rfl, ha, hb, hl, hm, nl, nm, q⟩ := h
    refine ⟨_, (pss_one (ps_ret (pe_callB cr_sortedI (by rfl) B.sorted_ (by decide +kernel) (pa_cons (pe_op op_cat (pv 0) (pe_call G_less (hr.mono (by decide)) (by rfl) L_less.g L_less.F.kp L_less.b .nil pass0 (pa_cons (pv 1) (pa_cons (pv 0) pa_nil)))) pa_nil)))), ?_⟩
    refine ⟨.ref a, rfl, .ref b, rfl, .ref a, rfl, b, a, m, l, rfl, hb, ha, hm, fun p1 H1 n1 e1 h1 => ?_⟩
    have hle : (lessL m l).length ≤ m.length := List.length_filter_le _ _
    refine ⟨a, p1, vN l, vN (lessL m l), rfl, rfl, e1 _ _ ha, h1, sz (by rw [vN_len, vN_len]; omega), fun p2 n2 => ?_⟩
    refine ⟨p2, (l ++ lessL m l).map (fun x : Nat => (x : Int)), rfl, ?_, fun ns' p3 hp hs n3 => ?_⟩
    · rw [← vN_eq, vN_app]
      exact .inl (.inl upd_same)
    · obtain ⟨r, er, up, _, hmem⟩ := sorted_vN hp hs (nodup_joint nl nm)
      have e2 : Ex H1 (upd H1 p2 (.lst (vN l ++ vN (lessL m l)))) := Evl.Ex.new n2
      refine q p3 _ r (Evl.fresh_back (e1.trans e2) n3) ((e1.trans e2).trans (Evl.Ex.new n3)) ?_ ⟨up, fun x => ?_⟩
      · rw [er]
        exact upd_same
      · rw [hmem, List.mem_append, mem_lessL]
        constructor
        · rintro (h | h)
          · exact .inl h
          · exact .inr h.1
        · rintro (h | h)
          · exact .inl h
          · by_cases c : x ∈ l
            · exact .inl c
            · exact .inr ⟨h, c⟩
end
end Bw
/-! ### D_around -/
namespace Bw
open PySem PySem.Spec PyProof.Rows L2
/-- what was found around v, by the ties done -/
structure Arnd (n v : Nat) (done : Ties) (F : List Nat) : Prop where
  nd : F.Nodup
  mem : ∀ y, y ∈ F ↔ adjT done v y = true
theorem Arnd.nil (n v : Nat) : Arnd n v [] [] := ⟨List.nodup_nil, fun y => by simp [adjT]⟩
theorem Arnd.size {n v : Nat} {done : Ties} {F : List Nat} (ok : TOk n done) (h : Arnd n v done F) : F.length ≤ n := by
  have := nodup_sub_length h.nd (m := List.range n) fun y hy => List.mem_range.2 (ok.lts ((h.mem y).1 hy)).2
  rwa [List.length_range] at this
theorem adjT_snoc (done : Ties) (a b x y : Nat) : adjT (done ++ [(a, b)]) x y = true ↔ adjT done x y = true ∨ (x = a ∧ y = b) ∨ (x = b ∧ y = a) := by
  rw [adjT_iff, adjT_iff]
  simp only [List.mem_append, List.mem_singleton, Prod.mk.injEq]
  constructor
  · rintro ((h | h) | (h | h))
    · exact .inl (.inl h)
    · exact .inr (.inl h)
    · exact .inl (.inr h)
    · exact .inr (.inr ⟨h.2, h.1⟩)
  · rintro ((h | h) | h | h)
    · exact .inl (.inl h)
    · exact .inr (.inl h)
    · exact .inl (.inr h)
    · exact .inr (.inr ⟨h.2, h.1⟩)
theorem Arnd.hit {n v a b o : Nat} {done : Ties} {F : List Nat} (ok : TOk n (done ++ [(a, b)])) (h : Arnd n v done F) (ho : (v = a ∧ o = b) ∨ (v = b ∧ o = a)) : Arnd n v (done ++ [(a, b)]) (F ++ [o]) := by
  have hab := ok.lt a b (List.mem_append_right _ List.mem_cons_self)
  have hn1 : (a, b) ∉ done := by
    have := ok.nd
    rw [List.nodup_append] at this
    intro q
    exact this.2.2 (a, b) q (a, b) List.mem_cons_self rfl
  have hn2 : (b, a) ∉ done := fun q => by have := ok.lt b a (List.mem_append_left _ q); omega
  refine ⟨nodup_snoc h.nd fun q => ?_, fun y => ?_⟩
  · rw [h.mem, adjT_iff] at q
    rcases ho with ⟨rfl, rfl⟩ | ⟨rfl, rfl⟩
    · exact q.elim hn1 hn2
    · exact q.elim hn2 hn1
  · rw [List.mem_append, List.mem_singleton, h.mem, adjT_snoc]
    rcases ho with ⟨rfl, rfl⟩ | ⟨rfl, rfl⟩
    · constructor
      · rintro (q | q)
        · exact .inl q
        · exact .inr (.inl ⟨rfl, q⟩)
      · rintro (q | q | q)
        · exact .inl q
        · exact .inr q.2
        · omega
    · constructor
      · rintro (q | q)
        · exact .inl q
        · exact .inr (.inr ⟨rfl, q⟩)
      · rintro (q | q | q)
        · exact .inl q
        · omega
        · exact .inr q.2
theorem Arnd.miss {n v a b : Nat} {done : Ties} {F : List Nat} (h : Arnd n v done F) (h1 : v ≠ a) (h2 : v ≠ b) : Arnd n v (done ++ [(a, b)]) F :=
  ⟨h.nd, fun y => by
    rw [h.mem, adjT_snoc]
    constructor
    · exact .inl
    · rintro (q | q | q)
      · exact q
      · exact absurd q.1 h1
      · exact absurd q.1 h2⟩
theorem TOk.take {n : Nat} {ties : Ties} (h : TOk n ties) (i : Nat) : TOk n (ties.take i) :=
  ⟨List.Nodup.sublist (List.take_sublist i ties) h.nd, fun a b q => h.lt a b (List.mem_of_mem_take q)⟩
section
variable {P : Program} {w : World} {K : PySem.W.Frag} {mg : Str → Option Value} {base : Heap}
def sp_around : Sp := fun vs H Q _ => ∃ (a : Addr) (n v : Nat) (ties : Ties), vs = [.ref a, .int (v : Int)] ∧ WebAt H a n ties ∧ n ≤ 7 ∧ TOk n ties ∧ v < n ∧
  ∀ p H', H p = none → Ex H H' → LN H' p ((List.range n).filter (adjT ties v)) → Q (.ref p) H'
theorem ok_around (L_around : Df K mg "around" s_around P_around) (B : Bi mg) : FnOk P w K mg base CX0 1 L_around.f L_around.fd P_around sp_around := by
  refine L_around.F.ok sc_around (fun vs H Q E h => ?_) (fun cdv A outer s H vs Q E hr h => ?_)
  · obtain ⟨a, n, v, ties, rfl, _⟩ := h
    rfl
  · obtain ⟨a, n, v, ties, rfl, ⟨tl, hw, htl⟩, hn, ok, hv, q⟩ := h
    refine ⟨_, (pss_cons (ps_if (PW.pt (pw_or (pt_cmpR op_lt (pv 1) pe_int (nomark _)) (pw_or1 (pt_cmpR op_ge (pv 1) (pe_ix (kIxT (K := K)) (pv 0) pe_int (fun _ _ => rfl)) (nomark _))))) (pss_one ps_never) pss_nil)
 (pss_cons (ps_set (i := 2) sc_around.nd rfl (Or.inl rfl) (pe_lst pa_nil))
 (pss_cons (ps_for PassesOwn.never rfl (pi_list (pe_ix (kIxT (K := K)) (pv 0) pe_int (fun _ _ => rfl))) (pg_tup rfl (pgs_cons (pg_name (i := 3) sc_around.nd rfl (Or.inl rfl)) (pgs_cons (pg_name (i := 4) sc_around.nd rfl (Or.inl rfl)) pgs_nil))) (pss_cons (ps_if (pt_cmpR op_eq (pv 3) (pv 1) (nomark _)) (pss_one (ps_expr (pe_bm PySem.F.plainAttrs_list PySem.F.slot_list_append PySem.F.type_list_append mt_append (pv 2) (pa_cons (pv 4) pa_nil)))) pss_nil)
 (pss_one (ps_if (pt_cmpR op_eq (pv 4) (pv 1) (nomark _)) (pss_one (ps_expr (pe_bm PySem.F.plainAttrs_list PySem.F.slot_list_append PySem.F.type_list_append mt_append (pv 2) (pa_cons (pv 3) pa_nil)))) pss_nil))))
 (pss_one (ps_ret (pe_callB cr_sortedI (by rfl) B.sorted_ (by decide +kernel) (pa_cons (pv 2) pa_nil))))))), ?_⟩
    have i0 : atI [V.int (n : Int), V.ref tl] 0 = some (.int (n : Int)) := atI_nat (j := 0) rfl
    have i1 : atI [V.int (n : Int), V.ref tl] 1 = some (.ref tl) := atI_nat (j := 1) rfl
    -- the refusal does not come
    refine ⟨.int (v : Int), rfl, (v : Int), 0, rfl, rfl, _, rfl, ite2 (fun e => ?_) (fun _ => ?_)⟩
    · have := of_decide_eq_true e
      omega
    refine ⟨.int (v : Int), rfl, .ref a, rfl, a, _, 0, _, rfl, rfl, .inl (.inl hw), i0, (v : Int), (n : Int), rfl, rfl, _, rfl, ite2 (fun e => ?_) (fun _ => ?_)⟩
    · have := of_decide_eq_true e
      omega
    -- found = []
    refine ⟨Nat.zero_le _, fun o no => ?_⟩
    have e1 : Ex H (upd H o (.lst [])) := Evl.Ex.new no
    obtain ⟨g, g1, g2⟩ := htl
    -- the loop
    refine ⟨.ref a, rfl, a, _, 1, _, rfl, rfl, .inl (.inl (e1 _ _ hw)), i1, tl, rfl, ⟨_, .inl (.inl (e1 _ _ g1))⟩, ?_⟩
    refine for_list (xs := (List.range ties.length).map fun i => V.ref (g i)) (fun i σ H' => ∃ x3 x4 F, σ = [some (.ref a), some (.int (v : Int)), some (.ref o), x3, x4] ∧ Ex H H' ∧ LN H' o F ∧ Arnd n v (ties.take i) F) ?_ ?_ ?_ ?_
    · exact ⟨none, none, [], rfl, e1, upd_same, Arnd.nil n v⟩
    · rintro i σ H' _ ⟨x3, x4, F, rfl, e, ho, hF⟩
      exact .inl (.inl (e _ _ g1))
    · rintro i x σ H' hi ⟨x3, x4, F, rfl, e, ho, hF⟩
      have hil : i < ties.length := by have := (List.getElem?_eq_some_iff.1 hi).1; simpa using this
      rw [range_get hil] at hi
      cases hi
      obtain ⟨⟨t1, t2⟩, ht⟩ : ∃ p, ties[i] = p := ⟨_, rfl⟩
      have hget : ties[i]? = some (t1, t2) := by rw [List.getElem?_eq_getElem hil, ht]
      have htake := take_snoc hget
      have oki : TOk n (ties.take i ++ [(t1, t2)]) := by rw [← htake]; exact ok.take _
      have hsz := hF.size (ok.take i)
      have lt12 := ok.lt t1 t2 (List.mem_of_getElem? hget)
      refine ⟨g i, _, rfl, .inl (.inl (e _ _ (g2 i t1 t2 hget))), rfl, .int (t1 : Int), _, rfl, .int (t2 : Int), [], rfl, rfl, ?_⟩
      refine ⟨.int (t1 : Int), rfl, .int (v : Int), rfl, rfl, _, rfl, ite2 (fun c => ?_) (fun c => ?_)⟩
      · have c1 := eqN c
        subst c1
        refine ⟨.ref o, rfl, .inl ⟨rfl, _, .inl (.inl ho)⟩, .int (t2 : Int), rfl, o, _, _, rfl, rfl, ho, sz' (by rw [vN_len]; omega), ?_⟩
        refine ⟨.int (t2 : Int), rfl, .int (t1 : Int), rfl, rfl, _, rfl, ite2 (fun c => ?_) (fun c => ?_)⟩
        · have := eqN c
          omega
        · refine ⟨_, _, F ++ [t2], rfl, Evl.Ex.mut e no, ?_, ?_⟩
          · unfold LN
            rw [upd_same, vN_app]
            rfl
          · rw [htake]
            exact hF.hit oki (.inl ⟨rfl, rfl⟩)
      · have c1 := neN c
        refine ⟨.int (t2 : Int), rfl, .int (v : Int), rfl, rfl, _, rfl, ite2 (fun c => ?_) (fun c => ?_)⟩
        · have c2 := eqN c
          subst c2
          refine ⟨.ref o, rfl, .inl ⟨rfl, _, .inl (.inl ho)⟩, .int (t1 : Int), rfl, o, _, _, rfl, rfl, ho, sz' (by rw [vN_len]; omega), ?_⟩
          refine ⟨_, _, F ++ [t1], rfl, Evl.Ex.mut e no, ?_, ?_⟩
          · unfold LN
            rw [upd_same, vN_app]
            rfl
          · rw [htake]
            exact hF.hit oki (.inr ⟨rfl, rfl⟩)
        · refine ⟨_, _, F, rfl, e, ho, ?_⟩
          rw [htake]
          exact hF.miss (Ne.symm c1) (Ne.symm (neN c))
    · rintro σ H' ⟨x3, x4, F, rfl, e, ho, hF⟩
      have hF' : Arnd n v ties F := by
        have : ((List.range ties.length).map fun i => V.ref (g i)).length = ties.length := by simp
        rw [this, List.take_length] at hF
        exact hF
      refine ⟨.ref o, rfl, o, F.map (fun x : Nat => (x : Int)), rfl, ?_, fun ns' p hp hs np => ?_⟩
      · rw [← vN_eq]
        exact .inl (.inl ho)
      · obtain ⟨r, er, up, _, hmem⟩ := sorted_vN hp hs hF'.nd
        refine q p _ (Evl.fresh_back e np) (e.trans (Evl.Ex.new np)) ?_
        unfold LN
        rw [upd_same, er, Up.ext up ((Up.range n).filter (adjT ties v)) fun y => ?_]
        rw [hmem, hF'.mem, List.mem_filter, List.mem_range]
        exact ⟨fun h => ⟨(ok.lts h).2, h⟩, fun h => h.2⟩
end
end Bw
/-! ### D_piece_of -/
namespace Bw
open PySem PySem.Spec PyProof.Rows L2
section
variable {P : Program} {w : World} {K : PySem.W.Frag} {mg : Str → Option Value} {base : Heap}
def sp_piece_of : Sp := fun vs H Q _ => ∃ (a pl : Addr) (n v : Nat) (ties : Ties), vs = [.ref a, .ref pl, .int (v : Int)] ∧ WebAt H a n ties ∧ LN H pl (List.range n) ∧ n ≤ 7 ∧ TOk n ties ∧ v < n ∧
  ∀ p H' C, H p = none → Ex H H' → LN H' p C → Comp (adjT ties) C → Up C → v ∈ C → (∀ x ∈ C, x < n) → Q (.ref p) H'
theorem ok_piece_of (L_piece_of : Df K mg "piece_of" s_piece_of P_piece_of) (L_around : Df K mg "around" s_around P_around) (B : Bi mg) : FnOk P w K mg base CX0 2 L_piece_of.f L_piece_of.fd P_piece_of sp_piece_of := by
  have G_around := ok_around (P := P) (w := w) (K := K) (base := base) L_around B
  refine L_piece_of.F.ok sc_piece_of (fun vs H Q E h => ?_) (fun cdv A outer s H vs Q E hr h => ?_)
  · obtain ⟨a, pl, n, v, ties, rfl, _⟩ := h
    rfl
  · obtain ⟨a, pl, n, v, ties, rfl, hw, hpl, hn, ok, hv, q⟩ := h
    refine ⟨_, (pss_cons (ps_set (i := 3) sc_piece_of.nd rfl (Or.inl rfl) (pe_lst (pa_cons (pv 2) pa_nil)))
 (pss_cons (ps_set (i := 4) sc_piece_of.nd rfl (Or.inl rfl) pe_int)
 (pss_cons (ps_while PassesOwn.never (pt_cmpR op_lt (pv 4) (pe_callB (kLen (K := K)) (by rfl) B.len_ PySem.boot_len (pa_cons (pv 3) pa_nil)) (nomark _)) (pss_cons (ps_for PassesOwn.never rfl (pi_list (pe_call G_around (hr.mono (by decide)) (by rfl) L_around.g L_around.F.kp L_around.b .nil pass0 (pa_cons (pv 0) (pa_cons (pe_ix (kIxL (K := K)) (pv 3) (pv 4) (fun _ _ => rfl)) pa_nil)))) (pg_name (i := 5) sc_piece_of.nd rfl (Or.inl rfl)) (pss_one (ps_if (PW.pt (pw_and (pt_cmpR (kIn (K := K)) (pv 5) (pv 1) (by rfl)) (pw_and1 (pt_cmpR (kNotIn (K := K)) (pv 5) (pv 3) (by rfl))))) (pss_one (ps_expr (pe_bm PySem.F.plainAttrs_list PySem.F.slot_list_append PySem.F.type_list_append mt_append (pv 3) (pa_cons (pv 5) pa_nil)))) pss_nil)))
 (pss_one (ps_set (i := 4) sc_piece_of.nd rfl (Or.inl rfl) (pe_op op_add (pv 4) pe_int)))))
 (pss_one (ps_ret (pe_callB cr_sortedI (by rfl) B.sorted_ (by decide +kernel) (pa_cons (pv 3) pa_nil))))))), ?_⟩
    -- found = [first]
    refine ⟨.int (v : Int), rfl, sz (by show 1 ≤ 100000; omega), fun o no => ?_⟩
    have e1 : Ex H (upd H o (.lst [.int (v : Int)])) := Evl.Ex.new no
    -- at = 0; while
    refine ⟨fun m σ H' => ∃ k F x5, σ = [some (.ref a), some (.ref pl), some (.int (v : Int)), some (.ref o), some (.int ((k : Nat) : Int)), x5] ∧ Ex H H' ∧ LN H' o F ∧ PFind n (adjT ties) v F k ∧ m = n - k,
      ⟨n, 0, [v], none, rfl, e1, upd_same, PFind.start hv, rfl⟩, ?_⟩
    rintro m σ H' ⟨k, F, x5, rfl, e, ho, hF, rfl⟩
    have hFn : F.length ≤ n := by
      have := nodup_sub_length hF.nd (m := List.range n) fun x hx => List.mem_range.2 (hF.lt x hx)
      rwa [List.length_range] at this
    refine ⟨.int (k : Int), rfl, .ref o, rfl, o, vN F, rfl, .inl (.inl (.inl ho)), (k : Int), ((vN F).length : Int), rfl, rfl, _, rfl, ite2 (fun c => ?_) (fun c => ?_)⟩
    · have hk : k < F.length := by
        have := of_decide_eq_true c
        rw [vN_len] at this
        omega
      have hs : F[k]? = some F[k] := List.getElem?_eq_getElem hk
      have hsn : F[k] < n := hF.lt _ (List.getElem_mem hk)
      refine ⟨fun σ' H2 => ∃ F' x5, σ' = [some (.ref a), some (.ref pl), some (.int (v : Int)), some (.ref o), some (.int ((k + 1 : Nat) : Int)), x5] ∧ Ex H H2 ∧ LN H2 o F' ∧ PFind n (adjT ties) v F' (k + 1), ?_, ?_⟩
      · rintro σ' H2 ⟨F', x5, e1, e2, e3, e4⟩
        exact ⟨n - (k + 1), by omega, k + 1, F', x5, e1, e2, e3, e4, rfl⟩
      -- for place in around(web, found[at])
      refine ⟨.ref a, rfl, .ref o, rfl, .int (k : Int), rfl, o, vN F, (k : Int), .int (F[k] : Int), rfl, rfl, .inl (.inl ho), atI_nat (vN_get hs), a, n, F[k], ties, rfl, hw.ex e, hn, ok, hsn, fun p H1 np e1 hp => ?_⟩
      have hpo : p ≠ o := fun q => by
        rw [q] at np
        unfold LN at ho
        rw [ho] at np; cases np
      refine ⟨p, rfl, ⟨_, hp.seq⟩, ?_⟩
      refine for_list (xs := vN ((List.range n).filter (adjT ties F[k]))) (fun i σ H2 => ∃ F' x5, σ = [some (.ref a), some (.ref pl), some (.int (v : Int)), some (.ref o), some (.int ((k : Nat) : Int)), x5] ∧ Ex H H2 ∧ LN H2 o F' ∧ LN H2 p ((List.range n).filter (adjT ties F[k])) ∧
        PFind n (adjT ties) v F' k ∧ F'[k]? = some F[k] ∧ ∀ y ∈ ((List.range n).filter (adjT ties F[k])).take i, y ∈ F') ?_ ?_ ?_ ?_
      · exact ⟨F, x5, rfl, e.trans e1, ho.ex e1, hp, hF, hs, fun y hy => by simp at hy⟩
      · rintro i σ H2 _ ⟨F', x5, rfl, _, _, h4, _⟩
        exact h4.seq
      · rintro i x σ H2 hi ⟨F', x5, rfl, e2, ho2, hp2, hF2, hs2, hall⟩
        have hil : i < ((List.range n).filter (adjT ties F[k])).length := by have := (List.getElem?_eq_some_iff.1 hi).1; rwa [vN_len] at this
        obtain ⟨y, hy⟩ : ∃ y, ((List.range n).filter (adjT ties F[k]))[i]? = some y := ⟨_, List.getElem?_eq_getElem hil⟩
        rw [vN_get hy] at hi
        cases hi
        have hym := List.mem_filter.1 (List.mem_of_getElem? hy)
        have hyn : y < n := List.mem_range.1 hym.1
        have hkl : k < F'.length := (List.getElem?_eq_some_iff.1 hs2).1
        refine Evl.s_if (b := (List.range n).contains y && !F'.contains y) (Evl.et_and (et_inN rfl rfl (hpl.ex e2)) fun _ => et_ninN rfl rfl ho2) (fun c H3 e3 => ?_) (fun c H3 e3 => ?_)
        · rw [Bool.and_eq_true, Bool.not_eq_true'] at c
          have hyF : y ∉ F' := fun q => by
            have := List.contains_iff_mem.2 q
            rw [c.2] at this; cases this
          have hF2n : F'.length ≤ n := by
            have := nodup_sub_length hF2.nd (m := List.range n) fun x hx => List.mem_range.2 (hF2.lt x hx)
            rwa [List.length_range] at this
          refine ⟨.ref o, rfl, .inl ⟨rfl, _, .inl (.inl (ho2.ex e3))⟩, .int (y : Int), rfl, o, _, _, rfl, rfl, ho2.ex e3, sz' (by rw [vN_len]; omega), ?_⟩
          refine ⟨F' ++ [y], _, rfl, Evl.Ex.mut (e2.trans e3) no, ?_, ?_, hF2.add (List.mem_of_getElem? hs2) hym.2 hyn hyF, ?_, ?_⟩
          · unfold LN
            rw [upd_same, vN_app]
            rfl
          · unfold LN
            rw [upd_ne hpo]
            exact hp2.ex e3
          · rw [List.getElem?_append_left hkl]
            exact hs2
          · intro z hz
            rw [take_snoc hy, List.mem_append, List.mem_singleton] at hz
            rcases hz with hz | hz
            · exact List.mem_append_left _ (hall z hz)
            · rw [hz]; exact List.mem_append_right _ List.mem_cons_self
        · refine ⟨F', _, rfl, e2.trans e3, ho2.ex e3, hp2.ex e3, hF2, hs2, ?_⟩
          intro z hz
          rw [take_snoc hy, List.mem_append, List.mem_singleton] at hz
          rcases hz with hz | hz
          · exact hall z hz
          · rw [hz]
            refine Classical.byContradiction fun hno => ?_
            have c1 : (List.range n).contains y = true := List.contains_iff_mem.2 hym.1
            have c2 : F'.contains y = false := by
              cases h : F'.contains y with
              | false => rfl
              | true => exact absurd (List.contains_iff_mem.1 h) hno
            rw [c1, c2] at c
            cases c
      · rintro σ H2 ⟨F', x5, rfl, e2, ho2, hp2, hF2, hs2, hall⟩
        rw [vN_len, List.take_length] at hall
        -- at = at + 1
        refine ⟨.int (k : Int), rfl, (k : Int), 1, rfl, rfl, F', x5, rfl, e2, ho2, hF2.next hs2 fun y hy => hall y ?_⟩
        rw [List.mem_filter, List.mem_range]
        exact ⟨(ok.lts hy).2, hy⟩
    · have hk : F.length ≤ k := by
        have : ¬ (k : Int) < ((vN F).length : Int) := fun h => c (decide_eq_true h)
        rw [vN_len] at this
        omega
      refine ⟨.ref o, rfl, o, F.map (fun x : Nat => (x : Int)), rfl, ?_, fun ns' p hp hs np => ?_⟩
      · rw [← vN_eq]
        exact .inl (.inl ho)
      · obtain ⟨r, er, up, _, hmem⟩ := sorted_vN hp hs hF.nd
        refine q p _ r (Evl.fresh_back e np) (e.trans (Evl.Ex.new np)) ?_ (hF.comp (adjT_sym ties) hk hmem) up ((hmem v).2 hF.has) fun x hx => hF.lt x ((hmem x).1 hx)
        unfold LN
        rw [upd_same, er]
end
end Bw
/-! ### D_pieces -/
namespace Bw
open PySem PySem.Spec PyProof.Rows L2
theorem getD_snoc_lt {α : Type} {l : List α} {x d : α} {i : Nat} (h : i < l.length) : (l ++ [x]).getD i d = l.getD i d := by
  rw [List.getD_eq_getElem?_getD, List.getD_eq_getElem?_getD, List.getElem?_append_left h]
theorem getD_snoc_eq {α : Type} {l : List α} {x d : α} : (l ++ [x]).getD l.length d = x := by
  rw [List.getD_eq_getElem?_getD, List.getElem?_concat_length]
  rfl
/-- a list of new lists, none of them known ahead -/
def LS (H0 H : Hp) (a : Addr) (Ps : List (List Nat)) : Prop :=
  ∃ g : Nat → Addr, H a = some (.lst ((List.range Ps.length).map fun x => V.ref (g x))) ∧ ∀ x, x < Ps.length → H0 (g x) = none ∧ LN H (g x) (Ps.getD x [])
section
variable {P : Program} {w : World} {K : PySem.W.Frag} {mg : Str → Option Value} {base : Heap}
def sp_pieces : Sp := fun vs H Q _ => ∃ (a pl : Addr) (n : Nat) (ties : Ties), vs = [.ref a, .ref pl] ∧ WebAt H a n ties ∧ LN H pl (List.range n) ∧ n ≤ 7 ∧ TOk n ties ∧
  ∀ p H' Ps seen, H p = none → Ex H H' → LS H H' p Ps → PInv n (adjT ties) n Ps seen → Q (.ref p) H'
theorem ok_pieces (L_pieces : Df K mg "pieces" s_pieces P_pieces) (L_piece_of : Df K mg "piece_of" s_piece_of P_piece_of) (L_around : Df K mg "around" s_around P_around) (B : Bi mg) : FnOk P w K mg base CX0 3 L_pieces.f L_pieces.fd P_pieces sp_pieces := by
  have G_piece_of := ok_piece_of (P := P) (w := w) (K := K) (base := base) L_piece_of L_around B
  refine L_pieces.F.ok sc_pieces (fun vs H Q E h => ?_) (fun cdv A outer s H vs Q E hr h => ?_)
  · obtain ⟨a, pl, n, ties, rfl, _⟩ := h
    rfl
  · obtain ⟨a, pl, n, ties, rfl, hw, hpl, hn, ok, q⟩ := h
    refine ⟨_, (pss_cons (ps_set (i := 2) sc_pieces.nd rfl (Or.inl rfl) (pe_lst pa_nil))
 (pss_cons (ps_set (i := 3) sc_pieces.nd rfl (Or.inl rfl) (pe_lst pa_nil))
 (pss_cons (ps_for PassesOwn.never rfl (pi_list (pv 1)) (pg_name (i := 4) sc_pieces.nd rfl (Or.inl rfl)) (pss_one (ps_if (pt_cmpR (kNotIn (K := K)) (pv 4) (pv 3) (by rfl)) (pss_cons (ps_set (i := 5) sc_pieces.nd rfl (Or.inl rfl) (pe_call G_piece_of (hr.mono (by decide)) (by rfl) L_piece_of.g L_piece_of.F.kp L_piece_of.b .nil pass0 (pa_cons (pv 0) (pa_cons (pv 1) (pa_cons (pv 4) pa_nil)))))
 (pss_cons (ps_expr (pe_bm PySem.F.plainAttrs_list PySem.F.slot_list_append PySem.F.type_list_append mt_append (pv 2) (pa_cons (pv 5) pa_nil)))
 (pss_one (ps_expr (pe_bm PySem.F.plainAttrs_list PySem.F.slot_list_extend PySem.F.type_list_extend mt_extend (pv 3) (pa_cons (pv 5) pa_nil)))))) pss_nil)))
 (pss_one (ps_ret (pv 2)))))), ?_⟩
    refine ⟨Nat.zero_le _, fun fo nfo => ?_⟩
    have e1 : Ex H (upd H fo (.lst [])) := Evl.Ex.new nfo
    refine ⟨Nat.zero_le _, fun so nso => ?_⟩
    have nso0 : H so = none := Evl.fresh_back e1 nso
    have hfs : fo ≠ so := fun q => by
      rw [← q, upd_same] at nso; cases nso
    have e2 : Ex H (upd (upd H fo (.lst [])) so (.lst [])) := e1.trans (Evl.Ex.new nso)
    refine ⟨.ref pl, rfl, pl, rfl, ⟨_, (hpl.ex e2).seq⟩, ?_⟩
    refine for_list (xs := vN (List.range n)) (fun i σ H' => ∃ (Ps : List (List Nat)) (seen : List Nat) (x4 x5 : Option V) (g : Nat → Addr), σ = [some (.ref a), some (.ref pl), some (.ref fo), some (.ref so), x4, x5] ∧ Ex H H' ∧ LN H' so seen ∧ PInv n (adjT ties) i Ps seen ∧
      H' fo = some (.lst ((List.range Ps.length).map fun x => V.ref (g x))) ∧ ∀ x, x < Ps.length → g x ≠ so ∧ g x ≠ fo ∧ H (g x) = none ∧ LN H' (g x) (Ps.getD x [])) ?_ ?_ ?_ ?_
    · refine ⟨[], [], none, none, fun _ => 0, rfl, e2, upd_same, PInv.start n _, ?_, fun x hx => by simp at hx⟩
      rw [upd_ne hfs, upd_same]
      rfl
    · rintro i σ H' _ ⟨Ps, seen, x4, x5, g, rfl, e, _⟩
      exact (hpl.ex e).seq
    · rintro i x σ H' hi ⟨Ps, seen, x4, x5, g, rfl, e, hso, hP, hfo, hg⟩
      have hil : i < n := by have := (List.getElem?_eq_some_iff.1 hi).1; rwa [vN_len, List.length_range] at this
      rw [vN_get (List.getElem?_range hil)] at hi
      cases hi
      have hsn : seen.length ≤ n := by
        have := nodup_sub_length hP.nd (m := List.range n) fun x hx => List.mem_range.2 (hP.lt x hx)
        rwa [List.length_range] at this
      refine Evl.s_if (b := !seen.contains i) (et_ninN rfl rfl hso) (fun c H3 e3 => ?_) (fun c H3 e3 => ?_)
      · have hi : i ∉ seen := fun q => by
          rw [List.contains_iff_mem.2 q] at c; cases c
        -- piece = piece_of(web, places, place)
        refine ⟨.ref a, rfl, .ref pl, rfl, .int (i : Int), rfl, a, pl, n, i, ties, rfl, hw.ex (e.trans e3), hpl.ex (e.trans e3), hn, ok, hil, fun p H4 C np e4 hp hC hU hiC hlt => ?_⟩
        have hfo4 := e4 _ _ (e3 _ _ hfo)
        have hso4 := e4 _ _ (e3 _ _ hso)
        have hpf : p ≠ fo := fun q => by rw [q, e3 _ _ hfo] at np; cases np
        have hps : p ≠ so := fun q => by
          have := e3 _ _ hso
          rw [q, this] at np; cases np
        have hPl : Ps.length ≤ 7 := by
          have := hP.few
          omega
        refine ⟨.ref fo, rfl, .inl ⟨rfl, _, .inl (.inl hfo4)⟩, .ref p, rfl, fo, _, _, rfl, rfl, hfo4, sz' (by rw [List.length_map, List.length_range]; omega), ?_⟩
        have hso5 : (upd H4 fo (.lst (((List.range Ps.length).map fun x => V.ref (g x)) ++ [V.ref p]))) so = some (.lst (vN seen)) := by
          rw [upd_ne (Ne.symm hfs)]; exact hso4
        have hp5 : (upd H4 fo (.lst (((List.range Ps.length).map fun x => V.ref (g x)) ++ [V.ref p]))) p = some (.lst (vN C)) := by
          rw [upd_ne hpf]; exact hp
        have hCn := Up.le_of hU hlt
        refine ⟨.ref so, rfl, .inl ⟨rfl, _, .inl (.inl hso5)⟩, .ref p, rfl, so, p, _, _, rfl, rfl, hso5, hp5, sz (by rw [vN_len, vN_len]; omega), ?_⟩
        refine ⟨Ps ++ [C], seen ++ C, _, _, fun x => if x = Ps.length then p else g x, rfl, Evl.Ex.mut (Evl.Ex.mut ((e.trans e3).trans e4) nfo) nso0, ?_, hP.add hi hC hU hiC hlt, ?_, fun x hx => ?_⟩
        · unfold LN
          rw [upd_same, vN_app]
        · rw [upd_ne hfs, upd_same, range_snoc_refs, List.length_append, List.length_singleton]
        · rw [List.length_append, List.length_singleton] at hx
          by_cases hxl : x = Ps.length
          · simp only [if_pos hxl]
            refine ⟨hps, hpf, Evl.fresh_back (e.trans e3) np, ?_⟩
            unfold LN
            rw [upd_ne hps, hp5, hxl, getD_snoc_eq]
          · simp only [if_neg hxl]
            obtain ⟨g1, g2, g3, g4⟩ := hg x (by omega)
            refine ⟨g1, g2, g3, ?_⟩
            unfold LN
            rw [upd_ne g1, upd_ne g2, getD_snoc_lt (by omega)]
            exact e4 _ _ (e3 _ _ g4)
      · have hi : i ∈ seen := by
          cases h : seen.contains i with
          | true => exact List.contains_iff_mem.1 h
          | false => rw [h] at c; cases c
        exact ⟨Ps, seen, _, _, g, rfl, e.trans e3, hso.ex e3, hP.skip hi, e3 _ _ hfo, fun x hx => by
          obtain ⟨g1, g2, g3, g4⟩ := hg x hx
          exact ⟨g1, g2, g3, g4.ex e3⟩⟩
    · rintro σ H' ⟨Ps, seen, x4, x5, g, rfl, e, hso, hP, hfo, hg⟩
      rw [vN_len, List.length_range] at hP
      exact ⟨.ref fo, rfl, q fo H' Ps seen nfo e ⟨g, hfo, fun x hx => ⟨(hg x hx).2.2.1, (hg x hx).2.2.2⟩⟩ hP⟩
end
end Bw
/-! ### D_way_up -/
namespace Bw
open PySem PySem.Spec PyProof.Rows L2
/-- an up, as a value -/
def uv : Option Nat → V
  | none => .non
  | some y => .int (y : Int)
/-- the ups, as a list -/
def UA (H : Hp) (a : Addr) (n : Nat) (u : Ups) : Prop := H a = some (.lst ((List.range n).map fun x => uv (u x)))
theorem last_get (l : List Nat) (x : Nat) : atI (vN (l ++ [x])) (-1) = some (V.int (x : Int)) := by
  rw [vN_app]
  exact atI_last _ _
section
variable {P : Program} {w : World} {K : PySem.W.Frag} {mg : Str → Option Value} {base : Heap}
def sp_way_up : Sp := fun vs H Q _ => ∃ (a : Addr) (n v : Nat) (u : Ups) (l : List Nat), vs = [.ref a, .int (v : Int)] ∧ UA H a n u ∧ Chain u v l ∧ (∀ x ∈ l, x < n) ∧ l.length ≤ 1000 ∧
  ∀ p H', H p = none → Ex H H' → LN H' p l → Q (.ref p) H'
theorem ok_way_up (L_way_up : Df K mg "way_up" s_way_up P_way_up) (B : Bi mg) : FnOk P w K mg base CX0 1 L_way_up.f L_way_up.fd P_way_up sp_way_up := by
  refine L_way_up.F.ok sc_way_up (fun vs H Q E h => ?_) (fun cdv A outer s H vs Q E hr h => ?_)
  · obtain ⟨a, n, v, u, l, rfl, _⟩ := h
    rfl
  · obtain ⟨a, n, v, u, l, rfl, hu, hc, hlt, hl, q⟩ := h
    refine ⟨_, (pss_cons (ps_set (i := 2) sc_way_up.nd rfl (Or.inl rfl) (pe_lst (pa_cons (pv 1) pa_nil)))
 (pss_cons (ps_while PassesOwn.never (pt_cmpR op_notN (pe_ix (kIxL (K := K)) (pv 0) (pe_ix (kIxL (K := K)) (pv 2) (pe_un un_neg pe_int) (fun _ _ => rfl)) (fun _ _ => rfl)) pe_non (nomark _)) (pss_one (ps_expr (pe_bm PySem.F.plainAttrs_list PySem.F.slot_list_append PySem.F.type_list_append mt_append (pv 2) (pa_cons (pe_ix (kIxL (K := K)) (pv 0) (pe_ix (kIxL (K := K)) (pv 2) (pe_un un_neg pe_int) (fun _ _ => rfl)) (fun _ _ => rfl)) pa_nil)))))
 (pss_one (ps_ret (pv 2))))), ?_⟩
    obtain ⟨r, hr0⟩ := hc.head
    refine ⟨.int (v : Int), rfl, sz (by show 1 ≤ 100000; omega), fun o no => ?_⟩
    have e1 : Ex H (upd H o (.lst [.int (v : Int)])) := Evl.Ex.new no
    refine ⟨fun m σ H' => ∃ (pre : List Nat) (x : Nat) (post : List Nat), l = pre ++ x :: post ∧ σ = [some (.ref a), some (.int (v : Int)), some (.ref o)] ∧ Ex H H' ∧ LN H' o (pre ++ [x]) ∧ m = post.length,
      ⟨r.length, [], v, r, hr0, rfl, e1, upd_same, rfl⟩, ?_⟩
    rintro m σ H' ⟨pre, x, post, el, rfl, e, ho, rfl⟩
    have hx : x < n := hlt x (by rw [el]; simp)
    have hux : atI ((List.range n).map fun x => uv (u x)) (x : Int) = some (uv (u x)) := atI_nat (range_get hx)
    have hpl : pre.length + 1 ≤ 1000 := by
      have := congrArg List.length el
      simp at this
      omega
    refine ⟨.ref a, rfl, .ref o, rfl, 1, rfl, o, _, -1, .int (x : Int), rfl, rfl, ho.seq, last_get pre x, a, _, (x : Int), uv (u x), rfl, rfl, .inl (.inl (e _ _ hu)), hux, rfl, _, rfl, ite2 (fun c => ?_) (fun c => ?_)⟩
    · -- there is an up
      have ct := hc.tail el
      cases ct with
      | top hn =>
        rw [hn] at c
        exact absurd c (by decide)
      | @up _ y _ hy ct =>
        obtain ⟨post', hp'⟩ := ct.head
        refine ⟨fun σ' H2 => σ' = [some (.ref a), some (.int (v : Int)), some (.ref o)] ∧ Ex H H2 ∧ LN H2 o ((pre ++ [x]) ++ [y]), ?_, ?_⟩
        · rintro σ' H2 ⟨rfl, e2, ho2⟩
          exact ⟨post'.length, by rw [hp']; simp, pre ++ [x], y, post', by rw [el, hp']; simp, rfl, e2, ho2, rfl⟩
        · refine ⟨.ref o, rfl, .inl ⟨rfl, _, .inl (.inl ho)⟩, .ref a, rfl, .ref o, rfl, 1, rfl, o, _, -1, .int (x : Int), rfl, rfl, ho.seq, last_get pre x, a, _, (x : Int), uv (u x), rfl, rfl, .inl (.inl (e _ _ hu)), hux,
            o, _, _, rfl, rfl, ho, sz' (by rw [vN_len, List.length_append, List.length_singleton]; omega), rfl, Evl.Ex.mut e no, ?_⟩
          unfold LN
          rw [upd_same, vN_app (pre ++ [x]), hy]
          rfl
    · have ct := hc.tail el
      cases ct with
      | top hn =>
        rw [← el] at ho
        exact ⟨.ref o, rfl, q o H' no e ho⟩
      | up hy _ =>
        rw [hy] at c
        exact absurd (by simp [uv]) c
end
end Bw
/-! ### D_ring_by -/
namespace Bw
open PySem PySem.Spec PyProof.Rows L2
theorem back2 (l : List Nat) (d c : Nat) : atI (vN (l ++ [d] ++ [c])) (-2) = some (V.int (d : Int)) := by
  unfold atI
  have hn : (vN (l ++ [d] ++ [c])).length = l.length + 2 := by rw [vN_len]; simp
  have e : ixN (vN (l ++ [d] ++ [c])).length (-2) = some l.length := by
    unfold ixN
    rw [hn, if_neg (by omega), if_pos (by omega)]
    congr 1
    omega
  rw [e]
  show (vN (l ++ [d] ++ [c]))[l.length]? = _
  exact vN_get (by simp)
theorem cut_last (xs : List V) : cutV xs none (some (-1)) = xs.dropLast := by
  unfold cutV
  rw [show HT.sIx xs.length 0 none = 0 from rfl]
  have : HT.sIx xs.length xs.length (some (-1)) = xs.length - 1 := by
    show (if (-1 : Int) < 0 then ((-1 : Int) + (xs.length : Int)).toNat else min (-1 : Int).toNat xs.length) = _
    rw [if_pos (by decide)]
    omega
  rw [this, List.drop_zero, Nat.sub_zero, List.dropLast_eq_take]
theorem vN_rev (l : List Nat) : (vN l).reverse = vN l.reverse := by
  unfold vN
  rw [List.map_reverse]
theorem drop_last (l : List Nat) (x : Nat) : (vN (l ++ [x])).dropLast = vN l := by
  rw [vN_app]
  exact List.dropLast_concat
theorem last_item (l : List Nat) (x : Nat) : (vN (l ++ [x]))[(vN (l ++ [x])).length - 1]? = some (V.int (x : Int)) := by
  rw [vN_len, List.length_append, List.length_singleton, Nat.add_sub_cancel]
  exact vN_get (by simp)
section
variable {P : Program} {w : World} {K : PySem.W.Frag} {mg : Str → Option Value} {base : Heap}
def sp_ring_by : Sp := fun vs H Q _ => ∃ (a : Addr) (n x y root : Nat) (u : Ups) (l1 l2 p1 p2 : List Nat), vs = [.ref a, .int (x : Int), .int (y : Int)] ∧ UA H a n u ∧ Chain u x l1 ∧ Chain u y l2 ∧ (∀ z ∈ l1, z < n) ∧ (∀ z ∈ l2, z < n) ∧
  l1.length ≤ 1000 ∧ l2.length ≤ 1000 ∧ l1 = p1 ++ [root] ∧ l2 = p2 ++ [root] ∧
  ∀ p H' L R c t, H p = none → Ex H H' → LN H' p (L ++ [c] ++ R.reverse) → Cut l1 l2 L R c t → (¬ ∃ L' R' d, L = L' ++ [d] ∧ R = R' ++ [d]) → Q (.ref p) H'
theorem ok_ring_by (L_ring_by : Df K mg "ring_by" s_ring_by P_ring_by) (L_way_up : Df K mg "way_up" s_way_up P_way_up) (B : Bi mg) : FnOk P w K mg base CX0 2 L_ring_by.f L_ring_by.fd P_ring_by sp_ring_by := by
  have G_way_up := ok_way_up (P := P) (w := w) (K := K) (base := base) L_way_up B
  refine L_ring_by.F.ok sc_ring_by (fun vs H Q E h => ?_) (fun cdv A outer s H vs Q E hr h => ?_)
  · obtain ⟨a, n, x, y, root, u, l1, l2, p1, p2, rfl, _⟩ := h
    rfl
  · obtain ⟨a, n, x, y, root, u, l1, l2, p1, p2, rfl, hu, c1, c2, lt1, lt2, len1, len2, ep1, ep2, q⟩ := h
    refine ⟨_, (pss_cons (ps_set (i := 3) sc_ring_by.nd rfl (Or.inl rfl) (pe_call G_way_up (hr.mono (by decide)) (by rfl) L_way_up.g L_way_up.F.kp L_way_up.b .nil pass0 (pa_cons (pv 0) (pa_cons (pv 1) pa_nil))))
 (pss_cons (ps_set (i := 4) sc_ring_by.nd rfl (Or.inl rfl) (pe_call G_way_up (hr.mono (by decide)) (by rfl) L_way_up.g L_way_up.F.kp L_way_up.b .nil pass0 (pa_cons (pv 0) (pa_cons (pv 2) pa_nil))))
 (pss_cons (ps_while PassesOwn.never (PW.pt (pw_and (pt_cmpR op_gt (pe_callB (kLen (K := K)) (by rfl) B.len_ PySem.boot_len (pa_cons (pv 3) pa_nil)) pe_int (nomark _)) (pw_and (pt_cmpR op_gt (pe_callB (kLen (K := K)) (by rfl) B.len_ PySem.boot_len (pa_cons (pv 4) pa_nil)) pe_int (nomark _)) (pw_and1 (pt_cmpR op_eq (pe_ix (kIxL (K := K)) (pv 3) (pe_un un_neg pe_int) (fun _ _ => rfl)) (pe_ix (kIxL (K := K)) (pv 4) (pe_un un_neg pe_int) (fun _ _ => rfl)) (nomark _)))))) (pss_cons (ps_expr (pe_bm0 PySem.F.plainAttrs_list PySem.F.slot_list_pop PySem.F.type_list_pop mt_pop (pv 3)))
 (pss_one (ps_expr (pe_bm0 PySem.F.plainAttrs_list PySem.F.slot_list_pop PySem.F.type_list_pop mt_pop (pv 4))))))
 (pss_one (ps_ret (pe_op op_cat (pv 3) (pe_listRev rfl (by rfl) B.list_ (by rfl) B.reversed_ (pe_slice sl_list (pv 4) po_none (po_some (pe_un un_neg pe_int)))))))))), ?_⟩
    refine ⟨.ref a, rfl, .int (x : Int), rfl, a, n, x, u, l1, rfl, hu, c1, lt1, len1, fun lo H1 nlo e1 hlo => ?_⟩
    refine ⟨.ref a, rfl, .int (y : Int), rfl, a, n, y, u, l2, rfl, e1 _ _ hu, c2, lt2, len2, fun ro H2 nro e2 hro => ?_⟩
    have nro0 : H ro = none := Evl.fresh_back e1 nro
    have hlr : lo ≠ ro := fun z => by
      rw [← z] at nro
      unfold LN at hlo
      rw [hlo] at nro; cases nro
    refine ⟨fun m σ H' => ∃ (L R t : List Nat) (c : Nat), σ = [some (.ref a), some (.int (x : Int)), some (.int (y : Int)), some (.ref lo), some (.ref ro)] ∧ Ex H H' ∧ LN H' lo (L ++ [c]) ∧ LN H' ro (R ++ [c]) ∧ Cut l1 l2 L R c t ∧ m = L.length,
      ⟨p1.length, p1, p2, [], root, rfl, e1.trans e2, by rw [← ep1]; exact hlo.ex e2, by rw [← ep2]; exact hro, ⟨ep1, ep2⟩, rfl⟩, ?_⟩
    rintro m σ H' ⟨L, R, t, c, rfl, e, hL, hR, hC, rfl⟩
    have lenL : L.length + 1 ≤ 1000 := by
      have := congrArg List.length hC.e1
      simp at this
      omega
    have lenR : R.length + 1 ≤ 1000 := by
      have := congrArg List.length hC.e2
      simp at this
      omega
    have fin : (¬ ∃ L' R' d, L = L' ++ [d] ∧ R = R' ++ [d]) → ∀ D : Ends, D.rt = Q → (tRet (tOp rCat (tVar 3) (tListBack K (tSl (rSlL K) (tVar 4) tNoPart (tPart (tUn (rU fun i => V.int (-i)) (tC (V.int 1)))))))) D [some (.ref a), some (.int (x : Int)), some (.int (y : Int)), some (.ref lo), some (.ref ro)] H' := by
      rintro hstop D rfl
      refine ⟨.ref lo, rfl, .ref ro, rfl, 1, rfl, -1, rfl, ro, vN (R ++ [c]), rfl, hR.seq, fun p3 n3 => ?_⟩
      have e3 : Ex H' (upd H' p3 (.lst (cutV (vN (R ++ [c])) none (some (-1))))) := Evl.Ex.new n3
      rw [cut_last, drop_last] at e3 ⊢
      refine ⟨p3, vN R, rfl, .inl (.inl upd_same), fun p4 n4 => ?_⟩
      have e4 : Ex (upd H' p3 (.lst (vN R))) (upd (upd H' p3 (.lst (vN R))) p4 (.lst (vN R).reverse)) := Evl.Ex.new n4
      refine ⟨lo, p4, vN (L ++ [c]), (vN R).reverse, rfl, rfl, e4 _ _ (e3 _ _ hL), upd_same, sz (by rw [vN_len, List.length_reverse, vN_len, List.length_append, List.length_singleton]; omega), fun p5 n5 => ?_⟩
      refine q p5 _ L R c t (Evl.fresh_back ((e.trans e3).trans e4) n5) (((e.trans e3).trans e4).trans (Evl.Ex.new n5)) ?_ hC hstop
      unfold LN
      rw [upd_same, vN_app (L ++ [c]), vN_rev]
    -- while len(left) > 1 and len(right) > 1 and left[-2] == right[-2]
    refine ⟨.ref lo, rfl, lo, vN (L ++ [c]), rfl, .inl hL.seq, ((vN (L ++ [c])).length : Int), 1, rfl, rfl, _, rfl, ?_⟩
    rcases List.eq_nil_or_concat L with eL | ⟨L', d, eL⟩
    · subst eL
      refine iteN (fun h => by have := of_decide_eq_true h; simp [vN_len] at this) (iteF ?_)
      exact fin (fun ⟨L', R', d, h, _⟩ => by simp at h) _ rfl
    · rw [List.concat_eq_append] at eL
      subst eL
      refine iteP (decide_eq_true (by rw [vN_len, List.length_append, List.length_append, List.length_singleton, List.length_singleton]; omega)) ?_
      refine ⟨.ref ro, rfl, ro, vN (R ++ [c]), rfl, .inl hR.seq, ((vN (R ++ [c])).length : Int), 1, rfl, rfl, _, rfl, ?_⟩
      rcases List.eq_nil_or_concat R with eR | ⟨R', d', eR⟩
      · subst eR
        refine iteN (fun h => by have := of_decide_eq_true h; simp [vN_len] at this) (iteF ?_)
        exact fin (fun ⟨L', R', d, _, h⟩ => by simp at h) _ rfl
      · rw [List.concat_eq_append] at eR
        subst eR
        refine iteP (decide_eq_true (by rw [vN_len, List.length_append, List.length_append, List.length_singleton, List.length_singleton]; omega)) ?_
        refine ⟨.ref lo, rfl, 2, rfl, lo, _, -2, .int (d : Int), rfl, rfl, hL.seq, back2 L' d c, .ref ro, rfl, 2, rfl, ro, _, -2, .int (d' : Int), rfl, rfl, hR.seq, back2 R' d' c, rfl, _, rfl, ite2 (fun k => ?_) (fun k => ?_)⟩
        · have ed := eqN k
          subst ed
          refine ⟨fun σ' H2 => σ' = [some (.ref a), some (.int (x : Int)), some (.int (y : Int)), some (.ref lo), some (.ref ro)] ∧ Ex H H2 ∧ LN H2 lo (L' ++ [d]) ∧ LN H2 ro (R' ++ [d]), ?_, ?_⟩
          · rintro σ' H2 ⟨rfl, e3, h1, h2⟩
            exact ⟨L'.length, by rw [List.length_append, List.length_singleton]; omega, L', R', c :: t, d, rfl, e3, h1, h2, hC.step, rfl⟩
          · refine ⟨.ref lo, rfl, .inl ⟨rfl, _, .inl (.inl hL)⟩, lo, vN (L' ++ [d] ++ [c]), .int (c : Int), rfl, rfl, hL, last_item (L' ++ [d]) c, ?_⟩
            rw [drop_last]
            have hR2 : (upd H' lo (.lst (vN (L' ++ [d])))) ro = some (.lst (vN (R' ++ [d] ++ [c]))) := by
              rw [upd_ne (Ne.symm hlr)]; exact hR
            refine ⟨.ref ro, rfl, .inl ⟨rfl, _, .inl (.inl hR2)⟩, ro, vN (R' ++ [d] ++ [c]), .int (c : Int), rfl, rfl, hR2, last_item (R' ++ [d]) c, ?_⟩
            rw [drop_last]
            refine ⟨rfl, Evl.Ex.mut (Evl.Ex.mut e nlo) nro0, ?_, ?_⟩
            · unfold LN
              rw [upd_ne hlr, upd_same]
            · exact upd_same
        · have ed := neN k
          refine fin (fun ⟨L2, R2, d2, h1, h2⟩ => ?_) _ rfl
          have k1 := (List.append_inj' h1 rfl).2
          have k2 := (List.append_inj' h2 rfl).2
          cases k1
          cases k2
          exact ed rfl
end
end Bw
/-! ### D_wood -/
namespace Bw
open PySem PySem.Spec PyProof.Rows L2
theorem rgV_nat (n : Nat) : rgV 0 (n : Int) = vN (List.range n) := by
  unfold rgV vN
  have : ((n : Int) - 0).toNat = n := by omega
  rw [this]
  apply List.map_congr_left
  intro x _
  rw [Int.zero_add]
theorem nones (n : Nat) : (List.replicate n [V.non]).flatten = (List.range n).map fun x => uv ((fun _ => none : Ups) x) := by
  induction n with
  | zero => rfl
  | succ n ih =>
    rw [List.replicate_succ', List.flatten_append, ih, List.range_succ, List.map_append]
    rfl
theorem scal_uv (p : Nat) (o : Option Nat) : scal (.int (p : Int)) (uv o) = true := by
  cases o <;> rfl
section
variable {P : Program} {w : World} {K : PySem.W.Frag} {mg : Str → Option Value} {base : Heap}
def sp_wood : Sp := fun vs H Q _ => ∃ (a : Addr) (n : Nat) (ties : Ties), vs = [.ref a] ∧ WebAt H a n ties ∧ n ≤ 7 ∧ TOk n ties ∧
  ∀ p H', H p = none → Ex H H' → ((∃ r, H' p = some (.tup [.str "wood", .ref r]) ∧ El 1 (adjT ties) (List.range n)) ∨ ∃ r R, H' p = some (.tup [.str "ring", .ref r]) ∧ LN H' r R ∧ IsRing n (adjT ties) R) → Q (.ref p) H'
theorem ok_wood (L_wood : Df K mg "wood" s_wood P_wood) (L_pieces : Df K mg "pieces" s_pieces P_pieces) (L_piece_of : Df K mg "piece_of" s_piece_of P_piece_of) (L_around : Df K mg "around" s_around P_around)
    (L_ring_by : Df K mg "ring_by" s_ring_by P_ring_by) (L_way_up : Df K mg "way_up" s_way_up P_way_up) (B : Bi mg) : FnOk P w K mg base CX0 4 L_wood.f L_wood.fd P_wood sp_wood := by
  have G_pieces := ok_pieces (P := P) (w := w) (K := K) (base := base) L_pieces L_piece_of L_around B
  have G_around := ok_around (P := P) (w := w) (K := K) (base := base) L_around B
  have G_ring_by := ok_ring_by (P := P) (w := w) (K := K) (base := base) L_ring_by L_way_up B
  refine L_wood.F.ok sc_wood (fun vs H Q E h => ?_) (fun cdv A outer s H vs Q E hr h => ?_)
  · obtain ⟨a, n, ties, rfl, _⟩ := h
    rfl
  · obtain ⟨a, n, ties, rfl, hweb, hn, ok, q⟩ := h
    refine ⟨_, (pss_cons (ps_set (i := 1) sc_wood.nd rfl (Or.inl rfl) (pe_op op_rep (pe_lst (pa_cons pe_non pa_nil)) (pe_ix (kIxT (K := K)) (pv 0) pe_int (fun _ _ => rfl))))
 (pss_cons (ps_for PassesOwn.never rfl (pi_list (pe_call G_pieces (hr.mono (by decide)) (by rfl) L_pieces.g L_pieces.F.kp L_pieces.b .nil pass0 (pa_cons (pv 0) (pa_cons (pe_listRg rfl (by rfl) B.list_ (prg_1 (by rfl) B.range_ (pe_ix (kIxT (K := K)) (pv 0) pe_int (fun _ _ => rfl)))) pa_nil)))) (pg_name (i := 2) sc_wood.nd rfl (Or.inl rfl)) (pss_cons (ps_set (i := 3) sc_wood.nd rfl (Or.inl rfl) (pe_lst (pa_cons (pe_ix (kIxL (K := K)) (pv 2) pe_int (fun _ _ => rfl)) pa_nil)))
 (pss_cons (ps_set (i := 4) sc_wood.nd rfl (Or.inl rfl) pe_int)
 (pss_one (ps_while PassesOwn.never (pt_cmpR op_lt (pv 4) (pe_callB (kLen (K := K)) (by rfl) B.len_ PySem.boot_len (pa_cons (pv 3) pa_nil)) (nomark _)) (pss_cons (ps_for PassesOwn.never rfl (pi_list (pe_call G_around (hr.mono (by decide)) (by rfl) L_around.g L_around.F.kp L_around.b .nil pass0 (pa_cons (pv 0) (pa_cons (pe_ix (kIxL (K := K)) (pv 3) (pv 4) (fun _ _ => rfl)) pa_nil)))) (pg_name (i := 5) sc_wood.nd rfl (Or.inl rfl)) (pss_one (ps_if (pt_cmpR (kNotIn (K := K)) (pv 5) (pv 3) (by rfl)) (pss_cons (ps_asg (pe_ix (kIxL (K := K)) (pv 3) (pv 4) (fun _ _ => rfl)) (pg_sub (pv 1) (pv 5) set_list))
 (pss_one (ps_expr (pe_bm PySem.F.plainAttrs_list PySem.F.slot_list_append PySem.F.type_list_append mt_append (pv 3) (pa_cons (pv 5) pa_nil))))) (pss_one (ps_if (pt_cmpR op_ne (pv 5) (pe_ix (kIxL (K := K)) (pv 1) (pe_ix (kIxL (K := K)) (pv 3) (pv 4) (fun _ _ => rfl)) (fun _ _ => rfl)) (nomark _)) (pss_one (ps_ret (pe_tup (pa_cons pe_str (pa_cons (pe_call G_ring_by (hr.mono (by decide)) (by rfl) L_ring_by.g L_ring_by.F.kp L_ring_by.b .nil pass0 (pa_cons (pv 1) (pa_cons (pe_ix (kIxL (K := K)) (pv 3) (pv 4) (fun _ _ => rfl)) (pa_cons (pv 5) pa_nil)))) pa_nil))))) pss_nil)))))
 (pss_one (ps_set (i := 4) sc_wood.nd rfl (Or.inl rfl) (pe_op op_add (pv 4) pe_int)))))))))
 (pss_one (ps_ret (pe_tup (pa_cons pe_str (pa_cons (pv 1) pa_nil))))))), ?_⟩
    obtain ⟨tl, hw, htl⟩ := id hweb
    have hs := adjT_sym ties
    have i0 : atI [V.int (n : Int), V.ref tl] 0 = some (.int (n : Int)) := atI_nat (j := 0) rfl
    -- ups = [None] * web[0]
    refine ⟨sz (by show 1 ≤ 100000; omega), fun lo nlo => ?_⟩
    have e0 : Ex H (upd H lo (.lst [.non])) := Evl.Ex.new nlo
    refine ⟨.ref a, rfl, a, _, 0, _, rfl, rfl, .inl (.inl (e0 _ _ hw)), i0, lo, (n : Int), [.non], rfl, rfl, upd_same, by omega, by omega, sz (by show 1 * (n : Int).toNat ≤ 100000; omega), fun uo nuo => ?_⟩
    rw [Int.toNat_natCast, nones]
    have nuo0 : H uo = none := Evl.fresh_back e0 nuo
    have e1 : Ex H (upd (upd H lo (.lst [.non])) uo (.lst ((List.range n).map fun x => uv ((fun _ => none : Ups) x)))) := e0.trans (Evl.Ex.new nuo)
    generalize hH1 : upd (upd H lo (.lst [.non])) uo (.lst ((List.range n).map fun x => uv ((fun _ => none : Ups) x))) = H1 at e1 ⊢
    have hu1 : UA H1 uo n (fun _ => none) := by rw [← hH1]; exact upd_same
    -- for piece in pieces(web, list(range(web[0])))
    refine ⟨.ref a, rfl, .ref a, rfl, a, _, 0, _, rfl, rfl, .inl (.inl (e1 _ _ hw)), i0, (n : Int), rfl, RgOk.of_le (by omega) (by omega) (by omega) (by omega), fun rg nrg => ?_⟩
    rw [rgV_nat]
    have e2 : Ex H1 (upd H1 rg (.lst (vN (List.range n)))) := Evl.Ex.new nrg
    refine ⟨a, rg, n, ties, rfl, hweb.ex (e1.trans e2), upd_same, hn, ok, fun pl H2 Ps sn npl e3 hLS hP => ?_⟩
    obtain ⟨g, hpl, hg⟩ := hLS
    have e12 : Ex H1 H2 := e2.trans e3
    have npl1 : H1 pl = none := Evl.fresh_back e2 npl
    have hpu : pl ≠ uo := fun z => by
      have : H1 uo = some _ := hu1
      rw [z, this] at npl1; cases npl1
    have hgu : ∀ x, x < Ps.length → g x ≠ uo := fun x hx z => by
      have h1 : H1 (g x) = none := Evl.fresh_back e2 (hg x hx).1
      have : H1 uo = some _ := hu1
      rw [z, this] at h1; cases h1
    have hH : ∀ b o, H b = some o → b ≠ uo := fun b o z => ne_of_none z nuo0
    refine ⟨pl, rfl, ⟨_, .inl (.inl hpl)⟩, ?_⟩
    refine for_list (xs := (List.range Ps.length).map fun x => V.ref (g x)) (fun i σ H' => ∃ (x2 x3 x4 x5 : Option V) (u : Ups), σ = [some (.ref a), some (.ref uo), x2, x3, x4, x5] ∧ But uo H2 H' ∧ UA H' uo n u ∧
      (∀ j, j < i → ∀ x ∈ Ps.getD j [], NoCore n (adjT ties) x) ∧ (∀ x, x < n → (∀ j, j < i → x ∉ Ps.getD j []) → u x = none)) ?_ ?_ ?_ ?_
    · exact ⟨none, none, none, none, fun _ => none, rfl, But.refl _ _, e12 _ _ hu1, fun j hj => absurd hj (Nat.not_lt_zero j), fun _ _ _ => rfl⟩
    · rintro i σ H' _ ⟨x2, x3, x4, x5, u, rfl, hb, _⟩
      exact .inl (.inl (hb _ _ hpu hpl))
    · rintro i x σ H' hi ⟨x2, x3, x4, x5, u0, rfl, hb, hu0, hnc, hfree⟩
      have hil : i < Ps.length := by have := (List.getElem?_eq_some_iff.1 hi).1; simpa using this
      rw [range_get hil] at hi
      cases hi
      -- the piece
      obtain ⟨C, hC⟩ : ∃ C, Ps.getD i [] = C := ⟨_, rfl⟩
      have hCm : C ∈ Ps := by
        rw [← hC, List.getD_eq_getElem?_getD, List.getElem?_eq_getElem hil]
        exact List.getElem_mem hil
      obtain ⟨hcomp, hup, hne⟩ := hP.comp C hCm
      obtain ⟨r, C', hrC⟩ : ∃ r C', C = r :: C' := by
        cases hq : C with
        | nil => exact absurd hq hne
        | cons r C' => exact ⟨r, C', rfl⟩
      have hrm : r ∈ C := by rw [hrC]; exact List.mem_cons_self
      have hlt : ∀ x ∈ C, x < n := fun x hx => hP.lt x ((hP.un x).2 ⟨C, hCm, hx⟩)
      have hgi : LN H' (g i) C := by
        unfold LN
        rw [← hC]
        exact hb _ _ (hgu i hil) (hg i hil).2
      have hru : u0 r = none := by
        refine hfree r (hlt r hrm) fun j hj hx => ?_
        have hjl : j < Ps.length := by omega
        have := List.pairwise_iff_getElem.1 hP.apart j i hjl hil hj r (by
          rw [List.getD_eq_getElem?_getD, List.getElem?_eq_getElem hjl] at hx
          exact hx)
        rw [List.getD_eq_getElem?_getD, List.getElem?_eq_getElem hil] at hC
        have hC' : Ps[i] = C := hC
        rw [hC'] at this
        exact this hrm
      -- seen = [piece[0]]
      refine ⟨.ref (g i), rfl, g i, vN C, 0, .int (r : Int), rfl, rfl, hgi.seq, atI_nat (j := 0) (vN_get (by rw [hrC]; rfl)), sz (by show 1 ≤ 100000; omega), fun so nso => ?_⟩
      have e4 : Ex H' (upd H' so (.lst [.int (r : Int)])) := Evl.Ex.new nso
      have hsu : so ≠ uo := fun z => by
        have : H' uo = some _ := hu0
        rw [z, this] at nso; cases nso
      have hbH : ∀ {H4 : Hp}, But uo H' H4 → ∀ {b o}, H b = some o → H4 b = some o := fun {H4} k {b o} z => k b o (hH b o z) (hb b o (hH b o z) (e12 _ _ (e1 _ _ z)))
      have webAt : ∀ {H4 : Hp}, But uo H' H4 → WebAt H4 a n ties := fun {H4} k => hweb.ex (fun b o z => hbH k z)
      -- at = 0; while at < len(seen)
      refine ⟨fun m σ H4 => ∃ (u : Ups) (seen : List Nat) (k : Nat) (x5 : Option V), σ = [some (.ref a), some (.ref uo), some (.ref (g i)), some (.ref so), some (.int (k : Int)), x5] ∧ But uo H' H4 ∧ UA H4 uo n u ∧ LN H4 so seen ∧
        Bfs n (adjT ties) r u seen k [] ∧ (∀ x, x ∉ C → u x = u0 x) ∧ m = n - k,
        ⟨n, u0, [r], 0, x5, rfl, But.of_ex e4, e4 _ _ hu0, upd_same, Bfs.start (hlt r hrm) hru, fun _ _ => rfl, rfl⟩, ?_⟩
      rintro m σ H4 ⟨u, seen, k, x5, rfl, hb4, hu4, hs4, hB, hout, rfl⟩
      have hsn : seen.length ≤ n := by
        have := nodup_sub_length hB.nd (m := List.range n) fun x hx => List.mem_range.2 (hB.lt x hx)
        rwa [List.length_range] at this
      refine ⟨.int (k : Int), rfl, .ref so, rfl, so, vN seen, rfl, .inl hs4.seq, (k : Int), ((vN seen).length : Int), rfl, rfl, _, rfl, ite2 (fun c => ?_) (fun c => ?_)⟩
      · have hk : k < seen.length := by
          have := of_decide_eq_true c
          rw [vN_len] at this
          omega
        obtain ⟨x, hx⟩ : ∃ x, seen[k]? = some x := ⟨_, List.getElem?_eq_getElem hk⟩
        have hxm := List.mem_of_getElem? hx
        have hxn : x < n := hB.lt x hxm
        refine ⟨fun σ' H5 => ∃ (u : Ups) (seen : List Nat) (x5 : Option V), σ' = [some (.ref a), some (.ref uo), some (.ref (g i)), some (.ref so), some (.int ((k + 1 : Nat) : Int)), x5] ∧ But uo H' H5 ∧ UA H5 uo n u ∧ LN H5 so seen ∧
          Bfs n (adjT ties) r u seen (k + 1) [] ∧ (∀ x, x ∉ C → u x = u0 x), ?_, ?_⟩
        · rintro σ' H5 ⟨u, seen, x5, h1, h2, h3, h4, h5, h6⟩
          exact ⟨n - (k + 1), by omega, u, seen, k + 1, x5, h1, h2, h3, h4, h5, h6, rfl⟩
        -- for place in around(web, seen[at])
        refine ⟨.ref a, rfl, .ref so, rfl, .int (k : Int), rfl, so, vN seen, (k : Int), .int (x : Int), rfl, rfl, hs4.seq, atI_nat (vN_get hx), a, n, x, ties, rfl, webAt hb4, hn, ok, hxn, fun p H5 np e5 hp => ?_⟩
        have hpu5 : p ≠ uo := fun z => by
          have : H4 uo = some _ := hu4
          rw [z, this] at np; cases np
        have hps : p ≠ so := fun z => by
          have : H4 so = some _ := hs4
          rw [z, this] at np; cases np
        refine ⟨p, rfl, ⟨_, hp.seq⟩, ?_⟩
        refine for_list (xs := vN ((List.range n).filter (adjT ties x))) (fun j σ H6 => ∃ (u : Ups) (seen : List Nat) (x5 : Option V), σ = [some (.ref a), some (.ref uo), some (.ref (g i)), some (.ref so), some (.int (k : Int)), x5] ∧ But uo H' H6 ∧ UA H6 uo n u ∧ LN H6 so seen ∧
          LN H6 p ((List.range n).filter (adjT ties x)) ∧ Bfs n (adjT ties) r u seen k (((List.range n).filter (adjT ties x)).take j) ∧ seen[k]? = some x ∧ (∀ x, x ∉ C → u x = u0 x)) ?_ ?_ ?_ ?_
        · exact ⟨u, seen, x5, rfl, hb4.ex e5, e5 _ _ hu4, hs4.ex e5, hp, hB, hx, hout⟩
        · rintro j σ H6 _ ⟨u, seen, x5, rfl, _, _, _, h4, _⟩
          exact h4.seq
        · rintro j v σ H6 hj ⟨u, seen, x5, rfl, hb6, hu6, hs6, hp6, hB6, hx6, hout6⟩
          have hjl : j < ((List.range n).filter (adjT ties x)).length := by have := (List.getElem?_eq_some_iff.1 hj).1; rwa [vN_len] at this
          obtain ⟨y, hy⟩ : ∃ y, ((List.range n).filter (adjT ties x))[j]? = some y := ⟨_, List.getElem?_eq_getElem hjl⟩
          rw [vN_get hy] at hj
          cases hj
          have hym := List.mem_filter.1 (List.mem_of_getElem? hy)
          have hyn : y < n := List.mem_range.1 hym.1
          have hxy : adjT ties x y = true := hym.2
          have htake := take_snoc hy
          have seenC : ∀ z ∈ seen, z ∈ C := fun z hz => by
            have := hB6.stay (fun z => decide (z ∈ C)) (fun a b ha hab => decide_eq_true (hcomp.closed a b (of_decide_eq_true ha) hab)) (decide_eq_true hrm) z hz
            exact of_decide_eq_true this
          have hxs := List.mem_of_getElem? hx6
          have hyC : y ∈ C := hcomp.closed x y (seenC x hxs) hxy
          have hsn6 : seen.length ≤ n := by
            have := nodup_sub_length hB6.nd (m := List.range n) fun x hx => List.mem_range.2 (hB6.lt x hx)
            rwa [List.length_range] at this
          refine Evl.s_if (b := !seen.contains y) (et_ninN rfl rfl hs6) (fun c H7 e7 => ?_) (fun c H7 e7 => ?_)
          · have hyn' : y ∉ seen := fun z => by
              rw [List.contains_iff_mem.2 z] at c; cases c
            have hu7 : UA H7 uo n u := e7 _ _ hu6
            have hs7 := hs6.ex e7
            -- ups[place] = seen[at]
            refine ⟨.ref so, rfl, .int (k : Int), rfl, so, vN seen, (k : Int), .int (x : Int), rfl, rfl, hs7.seq, atI_nat (vN_get hx6), .ref uo, rfl, .int (y : Int), rfl, uo, _, (y : Int), y, rfl, rfl, hu7, Evl.ixN_nat (by simpa using hyn), ?_⟩
            have hs8 : (upd H7 uo (.lst (((List.range n).map fun x => uv (u x)).set y (.int (x : Int))))) so = some (.lst (vN seen)) := by
              rw [upd_ne hsu]; exact hs7
            refine ⟨.ref so, rfl, .inl ⟨rfl, _, .inl (.inl hs8)⟩, .int (y : Int), rfl, so, _, _, rfl, rfl, hs8, sz' (by rw [vN_len]; omega), ?_⟩
            refine ⟨fun z => if z = y then some x else u z, seen ++ [y], _, rfl, ?_, ?_, ?_, ?_, ?_, ?_, ?_⟩
            · intro b o hbu hbo
              have hbs : b ≠ so := ne_of_none hbo nso
              rw [upd_ne hbs, upd_ne hbu]
              exact e7 _ _ (hb6 b o hbu hbo)
            · unfold UA
              rw [upd_ne (Ne.symm hsu), upd_same, range_set hyn]
              congr 3
              funext z
              by_cases hz : z = y
              · simp only [if_pos hz]; rfl
              · simp only [if_neg hz]
            · unfold LN
              rw [upd_same, vN_app]
              rfl
            · unfold LN
              rw [upd_ne hps, upd_ne hpu5]
              exact e7 _ _ hp6
            · rw [htake]
              exact hB6.add hx6 hxy hyn hyn'
            · rw [List.getElem?_append_left (List.getElem?_eq_some_iff.1 hx6).1]
              exact hx6
            · intro z hz
              have : z ≠ y := fun e => hz (e ▸ hyC)
              simp only [if_neg this]
              exact hout6 z hz
          · have hys : y ∈ seen := by
              cases h : seen.contains y with
              | true => exact List.contains_iff_mem.1 h
              | false => rw [h] at c; cases c
            have hu7 : UA H7 uo n u := e7 _ _ hu6
            have hs7 := hs6.ex e7
            have hux : atI ((List.range n).map fun x => uv (u x)) (x : Int) = some (uv (u x)) := atI_nat (range_get hxn)
            -- elif place != ups[seen[at]]
            refine ⟨.int (y : Int), rfl, .ref uo, rfl, .ref so, rfl, .int (k : Int), rfl, so, vN seen, (k : Int), .int (x : Int), rfl, rfl, hs7.seq, atI_nat (vN_get hx6), uo, _, (x : Int), uv (u x), rfl, rfl, .inl (.inl hu7), hux, scal_uv y (u x), _, rfl, ite2 (fun c2 => ?_) (fun c2 => ?_)⟩
            · -- a ring
              have u1 : u x ≠ some y := fun e => by
                rw [e] at c2
                have : decide (V.int (y : Int) = uv (some y)) = true := decide_eq_true rfl
                rw [this] at c2
                cases c2
              have u2 : u y ≠ some x := fun e => by
                rcases hB6.kid y hys x e with ⟨j', h1, h2⟩ | ⟨_, h2⟩
                · have := get_inj hB6.nd h2 hx6
                  omega
                · obtain ⟨j', hj'⟩ := List.getElem?_of_mem h2
                  have hjj : j' < j := by
                    have := (List.getElem?_eq_some_iff.1 hj').1
                    rw [List.length_take] at this
                    omega
                  rw [List.getElem?_take, if_pos hjj] at hj'
                  have := get_inj ((Up.range n).filter (adjT ties x)).nodup hj' hy
                  omega
              have hne2 : x ≠ y := fun e => by
                have := ok.irr x
                rw [← e] at hxy
                rw [this] at hxy; cases hxy
              have hW := hB6.ways
              obtain ⟨l1, c1, in1, nd1, ⟨p1, ep1⟩⟩ := hW.ex x hxs
              obtain ⟨l2, c2', in2, nd2, ⟨p2, ep2⟩⟩ := hW.ex y hys
              have len1 : l1.length ≤ n := by
                have := nodup_sub_length nd1 (m := List.range n) fun z hz => List.mem_range.2 (hW.lt z (in1 z hz))
                rwa [List.length_range] at this
              have len2 : l2.length ≤ n := by
                have := nodup_sub_length nd2 (m := List.range n) fun z hz => List.mem_range.2 (hW.lt z (in2 z hz))
                rwa [List.length_range] at this
              refine ⟨.ref uo, rfl, .ref so, rfl, .int (k : Int), rfl, so, vN seen, (k : Int), .int (x : Int), rfl, rfl, hs7.seq, atI_nat (vN_get hx6), .int (y : Int), rfl, uo, n, x, y, r, u, l1, l2, p1, p2, rfl, hu7, c1, c2', fun z hz => hW.lt z (in1 z hz), fun z hz => hW.lt z (in2 z hz), by omega, by omega, ep1, ep2, fun ro H8 L R cc t nro e8 hro hCut hstop => ?_⟩
              refine ⟨sz (by show 2 ≤ 100000; omega), fun tp ntp => ?_⟩
              have hring := hCut.ring hs hW hxs hys c1 c2' hstop hxy hne2 u1 u2
              have hall : Ex H (upd H8 tp (.tup [.str "ring", .ref ro])) := fun b o z => Evl.Ex.new ntp _ _ (e8 _ _ (e7 _ _ (hbH hb6 z)))
              refine q tp _ ?_ hall (.inr ⟨ro, _, upd_same, ?_, hring⟩)
              · exact Evl.fresh_back (fun b o z => e8 _ _ (e7 _ _ (hbH hb6 z))) ntp
              · unfold LN
                rw [upd_ne (ne_of_none hro ntp)]
                exact hro
            · have hux2 : u x = some y := by
                have h1 : decide (V.int (y : Int) = uv (u x)) = true := by
                  cases h : decide (V.int (y : Int) = uv (u x)) with
                  | true => rfl
                  | false => rw [h] at c2; exact absurd rfl c2
                have h2 := of_decide_eq_true h1
                cases hz : u x with
                | none => rw [hz] at h2; cases h2
                | some z =>
                  rw [hz] at h2
                  have := V.int.inj h2
                  congr 1
                  omega
              refine ⟨u, seen, _, rfl, hb6.ex e7, hu7, hs7, hp6.ex e7, ?_, hx6, hout6⟩
              rw [htake]
              exact hB6.back hx6 hys hux2
        · rintro σ H6 ⟨u, seen, x5, rfl, hb6, hu6, hs6, hp6, hB6, hx6, hout6⟩
          rw [vN_len, List.take_length] at hB6
          refine ⟨.int (k : Int), rfl, (k : Int), 1, rfl, rfl, u, seen, x5, rfl, hb6, hu6, hs6, hB6.next hx6 fun y hy => ?_, hout6⟩
          rw [List.mem_filter, List.mem_range]
          exact ⟨(ok.lts hy).2, hy⟩
      · have hk : seen.length ≤ k := by
          have : ¬ (k : Int) < ((vN seen).length : Int) := fun h => c (decide_eq_true h)
          rw [vN_len] at this
          omega
        obtain ⟨cov1, cov2⟩ := hB.covers hk hcomp hrm
        refine ⟨_, _, _, _, u, rfl, hb.trans hb4, hu4, fun j hj z hz => ?_, fun z hz hno => ?_⟩
        · by_cases hji : j = i
          · rw [hji, hC] at hz
            exact hB.noCore hk (cov1 z hz)
          · exact hnc j (by omega) z hz
        · have hzC : z ∉ C := fun h => hno i (by omega) (by rw [hC]; exact h)
          rw [hout z hzC]
          exact hfree z hz fun j hj => hno j (by omega)
    · rintro σ H' ⟨x2, x3, x4, x5, u, rfl, hb, hu, hnc, _⟩
      have hEl : El 1 (adjT ties) (List.range n) := by
        refine (El.iff_thin hs ok.irr List.nodup_range).2 (thin_of fun x hx => ?_)
        obtain ⟨C, hCm, hxC⟩ := (hP.un x).1 (hP.all x hx)
        obtain ⟨j, hj⟩ := List.getElem?_of_mem hCm
        have hjl := (List.getElem?_eq_some_iff.1 hj).1
        refine hnc j (by simpa using hjl) x ?_
        rw [List.getD_eq_getElem?_getD, hj]
        exact hxC
      refine ⟨.ref uo, rfl, sz (by show 2 ≤ 100000; omega), fun tp ntp => ?_⟩
      have hall : Ex H H' := fun b o z => hb b o (hH b o z) (e12 _ _ (e1 _ _ z))
      exact q tp _ (Evl.fresh_back hall ntp) (hall.trans (Evl.Ex.new ntp)) (.inl ⟨uo, upd_same, hEl⟩)
end
end Bw
/-! ### D_fold_away -/
namespace Bw
open PySem PySem.Spec PyProof.Rows L2
section
variable {P : Program} {w : World} {K : PySem.W.Frag} {mg : Str → Option Value} {base : Heap}
def sp_fold_away : Sp := fun vs H Q _ => ∃ (nr rs : Addr) (n : Nat) (f : Nat → List Nat) (S : List Nat) (A : Adj), vs = [.ref nr, .ref rs] ∧ LL H nr n f ∧ LN H rs S ∧ nr ≠ rs ∧ n ≤ 7 ∧ Rep n f S A ∧
  ∀ t st r H' f' S' A' m, H t = none → H st = none → But nr H H' → H' t = some (.tup [.ref st, .ref r]) → m ≤ n → Stp H H' st nr n m → LN H' r S' → (r = rs ∨ H r = none) → LL H' nr n f' → Folds n S A f' S' A' → (∀ v ∈ S', ¬ (f' v).length < 3) → Q (.ref t) H'
def isLow (f : Nat → List Nat) (v : Nat) : Bool := decide ((f v).length < 3)
/-- len(near[v]) < 3 -/
theorem et_low {σ : L2.St} {H : Hp} {i j v n : Nat} {a : Addr} {f : Nat → List Nat} (hi : σ[i]? = some (some (.ref a))) (hj : σ[j]? = some (some (.int (v : Int)))) (h : LL H a n f) (hv : v < n) :
    Evl.EvT (tTest (tOp (rI0 fun i j => V.bl (decide (i < j))) (tCB (Evl.rLenS K) (tCons (tOp (rIxL K) (tVar i) (tVar j)) tNil)) (tC (.int 3)))) σ H (isLow f v) := by
  obtain ⟨g, h1, h2⟩ := h
  have e := Evl.et_test (Evl.ev_op (H := H) (σ := σ) (Evl.ev_len (K := K) (Evl.ev_op (Evl.ev_var hi) (Evl.ev_var hj) (Evl.rv_ixL (K := K) (.inl (.inl h1)) (atI_nat (range_get hv)))) (h2 v hv).2.seq) (Evl.ev_c (v := .int 3)) (Evl.rv_I0 (g := fun i j => V.bl (decide (i < j)))))
  refine Evl.et_is e ?_
  unfold isLow
  rw [vN_len]
  by_cases c : (f v).length < 3
  · rw [decide_eq_true c, decide_eq_true (by omega)]
  · rw [decide_eq_false c, decide_eq_false (by omega)]
theorem ok_fold_away (L_fold_away : Df K mg "fold_away" s_fold_away P_fold_away) (L_less : Df K mg "less" s_less P_less) (L_joint : Df K mg "joint" s_joint P_joint) (B : Bi mg) : FnOk P w K mg base CX0 3 L_fold_away.f L_fold_away.fd P_fold_away sp_fold_away := by
  have G_less := ok_less (P := P) (w := w) (K := K) (base := base) L_less B
  have G_joint := ok_joint (P := P) (w := w) (K := K) (base := base) L_joint L_less B
  refine L_fold_away.F.ok sc_fold_away (fun vs H Q E h => ?_) (fun cdv A outer s H vs Q E hr h => ?_)
  · obtain ⟨nr, rs, n, f, S, A, rfl, _⟩ := h
    rfl
  · obtain ⟨nr, rs, n, f, S, A0, rfl, hnr, hrs, nrs, hn, hrep, q⟩ := h
    refine ⟨_, (pss_cons (ps_set (i := 2) sc_fold_away.nd rfl (Or.inl rfl) (pe_lst pa_nil))
 (pss_cons (ps_setLc (i := 3) (own := [("v", 4)]) (g := gName 4) rfl sc_fold_away.nd rfl rfl (sw_true rfl rfl rfl (by decide +kernel)) (pi_list (pv 1)) (blkOk_by (own := [("v", 4)]) (N := N_fold_away) (sc := defScope s_fold_away) (by decide +kernel)) (fun _ _ _ _ _ => pg_name (i := 4) sc_fold_away.nd rfl (Or.inl rfl)) (fun _ _ _ _ _ => (pts_one (pt_cmpR op_lt (pe_callB (kLen (K := K)) (by rfl) B.len_ PySem.boot_len (pa_cons (pe_ix (kIxL (K := K)) (pv 0) (pv 4) (fun _ _ => rfl)) pa_nil)) pe_int (nomark _)))) (fun _ _ _ _ _ => (pv 4)))
 (pss_cons (ps_while PassesOwn.never (pt_cmpR op_gt (pe_callB (kLen (K := K)) (by rfl) B.len_ PySem.boot_len (pa_cons (pv 3) pa_nil)) pe_int (nomark _)) (pss_cons (ps_set (i := 4) sc_fold_away.nd rfl (Or.inl rfl) (pe_ix (kIxL (K := K)) (pv 3) pe_int (fun _ _ => rfl)))
 (pss_cons (ps_expr (pe_bm PySem.F.plainAttrs_list PySem.F.slot_list_append PySem.F.type_list_append mt_append (pv 2) (pa_cons (pe_tup (pa_cons (pv 4) (pa_cons (pe_callTy (kList (K := K)) (by rfl) B.list_ PyProof.Rows.boot_list (pa_cons (pe_ix (kIxL (K := K)) (pv 0) (pv 4) (fun _ _ => rfl)) pa_nil)) pa_nil))) pa_nil)))
 (pss_cons (ps_set (i := 1) sc_fold_away.nd rfl (Or.inl rfl) (pe_call G_less (hr.mono (by decide)) (by rfl) L_less.g L_less.F.kp L_less.b .nil pass0 (pa_cons (pv 1) (pa_cons (pe_lst (pa_cons (pv 4) pa_nil)) pa_nil))))
 (pss_cons (ps_for PassesOwn.never rfl (pi_list (pe_ix (kIxL (K := K)) (pv 0) (pv 4) (fun _ _ => rfl))) (pg_name (i := 5) sc_fold_away.nd rfl (Or.inl rfl)) (pss_one (ps_asg (pe_call G_less (hr.mono (by decide)) (by rfl) L_less.g L_less.F.kp L_less.b .nil pass0 (pa_cons (pe_call G_joint (hr.mono (by decide)) (by rfl) L_joint.g L_joint.F.kp L_joint.b .nil pass0 (pa_cons (pe_ix (kIxL (K := K)) (pv 0) (pv 5) (fun _ _ => rfl)) (pa_cons (pe_ix (kIxL (K := K)) (pv 0) (pv 4) (fun _ _ => rfl)) pa_nil))) (pa_cons (pe_lst (pa_cons (pv 5) (pa_cons (pv 4) pa_nil))) pa_nil))) (pg_sub (pv 0) (pv 5) set_list))))
 (pss_one (ps_setLc (i := 3) (own := [("v", 4)]) (g := gName 4) rfl sc_fold_away.nd rfl rfl (sw_true rfl rfl rfl (by decide +kernel)) (pi_list (pv 1)) (blkOk_by (own := [("v", 4)]) (N := N_fold_away) (sc := defScope s_fold_away) (by decide +kernel)) (fun _ _ _ _ _ => pg_name (i := 4) sc_fold_away.nd rfl (Or.inl rfl)) (fun _ _ _ _ _ => (pts_one (pt_cmpR op_lt (pe_callB (kLen (K := K)) (by rfl) B.len_ PySem.boot_len (pa_cons (pe_ix (kIxL (K := K)) (pv 0) (pv 4) (fun _ _ => rfl)) pa_nil)) pe_int (nomark _)))) (fun _ _ _ _ _ => (pv 4)))))))))
 (pss_one (ps_ret (pe_tup (pa_cons (pv 2) (pa_cons (pv 1) pa_nil)))))))), ?_⟩
    have hSl : S.length ≤ n := hrep.up.le_of hrep.lt
    -- steps = []
    refine ⟨Nat.zero_le _, fun st nst => ?_⟩
    have e1 : Ex H (upd H st (.lst [])) := Evl.Ex.new nst
    have sn : nr ≠ st := by
      obtain ⟨g, h1, _⟩ := hnr
      exact ne_of_none h1 nst
    have sr : rs ≠ st := ne_of_none hrs nst
    have nnr : ∃ xs, H nr = some (.lst xs) := by
      obtain ⟨g, h1, _⟩ := hnr
      exact ⟨_, h1⟩
    -- slack
    refine Evl.s_asgL (xs := vN (S.filter (isLow f))) (el_filter (K := K) (isLow f) (Evl.ev_var rfl) (hrs.ex e1).seq (by omega) (fun _ => rfl) (fun x H1 e hx => et_low rfl rfl (hnr.ex (e1.trans e)) (hrep.lt x hx)) (fun x H1 => Evl.ev_var rfl)) (fun sl H1 nsl e2 hsl => ?_)
    -- while len(slack) > 0
    refine ⟨fun m σ H' => ∃ (f1 : Nat → List Nat) (S1 : List Nat) (A1 : Adj) (x4 x5 : Option V) (r sl : Addr) (c : Nat), σ = [some (.ref nr), some (.ref r), some (.ref st), some (.ref sl), x4, x5] ∧ But nr H H' ∧ LLx st H' nr n f1 ∧ LN H' r S1 ∧ r ≠ st ∧ r ≠ nr ∧ (r = rs ∨ H r = none) ∧
      LN H' sl (S1.filter (isLow f1)) ∧ Stp H H' st nr n c ∧ c + S1.length ≤ n ∧ Folds n S A0 f1 S1 A1 ∧ m = S1.length,
      ⟨S.length, f, S, A0, none, none, rs, sl, 0, rfl, But.of_ex (e1.trans e2), ?_, hrs.ex (e1.trans e2), sr, Ne.symm nrs, .inl rfl, hsl, ?_, by omega, ⟨hrep, fun _ h => h, Iff.rfl⟩, rfl⟩, ?_⟩
    · obtain ⟨g, h1, h2⟩ := hnr
      exact ⟨g, e2 _ _ (e1 _ _ h1), fun x hx => ⟨(h2 x hx).1, ne_of_none (h2 x hx).2 nst, (h2 x hx).2.ex (e1.trans e2)⟩⟩
    · exact ⟨fun _ => 0, fun _ => 0, fun _ => 0, fun _ => [], e2 _ _ upd_same, fun i hi => absurd hi (Nat.not_lt_zero i)⟩
    rintro m σ H' ⟨f1, S1, A1, x4, x5, r, sl', c, rfl, hb, hN, hR, rst, rnr, rold, hsl', hst, hcn, hF, rfl⟩
    refine ⟨.ref sl', rfl, sl', vN (S1.filter (isLow f1)), rfl, .inl hsl'.seq, ((vN (S1.filter (isLow f1))).length : Int), 0, rfl, rfl, _, rfl, ite2 (fun k => ?_) (fun k => ?_)⟩
    · -- v = slack[0]
      obtain ⟨v, rest', hv⟩ : ∃ v rest', S1.filter (isLow f1) = v :: rest' := by
        cases h : S1.filter (isLow f1) with
        | nil =>
          rw [h] at k
          exact absurd k (by decide)
        | cons v r => exact ⟨v, r, rfl⟩
      have hvm : v ∈ S1.filter (isLow f1) := by rw [hv]; exact List.mem_cons_self
      obtain ⟨hvS, hvl⟩ := List.mem_filter.1 hvm
      have hvd : (f1 v).length < 3 := of_decide_eq_true hvl
      have hrep1 := hF.rep
      have hvn : v < n := hrep1.lt v hvS
      have hS1l := length_rem hrep1.up.nodup hvS
      obtain ⟨g, g1, g2⟩ := hN
      have gv := atI_nat (range_get (g := fun x => V.ref (g x)) hvn)
      have hS1n : S1.length ≤ n := hrep1.up.le_of hrep1.lt
      refine ⟨fun σ' H2 => ∃ (r sl : Addr) (x5 : Option V), σ' = [some (.ref nr), some (.ref r), some (.ref st), some (.ref sl), some (.int (v : Int)), x5] ∧ But nr H H2 ∧ LLx st H2 nr n (folded f1 A1 S1 v) ∧ LN H2 r (rem S1 v) ∧ r ≠ st ∧ r ≠ nr ∧ (r = rs ∨ H r = none) ∧
        LN H2 sl ((rem S1 v).filter (isLow (folded f1 A1 S1 v))) ∧ Stp H H2 st nr n (c + 1), ?_, ?_⟩
      · rintro σ' H2 ⟨r, sl, x5, a1, a2, a3, a4, a5, a5', a5'', a6, a7⟩
        exact ⟨(rem S1 v).length, by omega, _, _, _, _, x5, r, sl, c + 1, a1, a2, a3, a4, a5, a5', a5'', a6, a7, by omega, hF.step hvS hvd, rfl⟩
      refine ⟨.ref sl', rfl, sl', _, 0, .int (v : Int), rfl, rfl, hsl'.seq, atI_nat (j := 0) (vN_get (by rw [hv]; rfl)), ?_⟩
      -- steps.append((v, list(near[v])))
      obtain ⟨gst, hst1, kst, Nst, hst0, hst2⟩ := id hst
      refine ⟨.ref st, rfl, .inl ⟨rfl, _, .inl (.inl hst0)⟩, .int (v : Int), rfl, .ref nr, rfl, .int (v : Int), rfl, nr, _, (v : Int), .ref (g v), rfl, rfl, .inl (.inl g1), gv, g v, vN (f1 v), rfl, .inl (g2 v hvn).2.2.seq, fun cp ncp => ?_⟩
      have e3 : Ex H' (upd H' cp (.lst (vN (f1 v)))) := Evl.Ex.new ncp
      have hcp : LN (upd H' cp (.lst (vN (f1 v)))) cp (f1 v) := upd_same
      generalize hHa : upd H' cp (.lst (vN (f1 v))) = Ha at e3 hcp ⊢
      refine ⟨sz (by show 2 ≤ 100000; omega), fun tp ntp => ?_⟩
      have e4 : Ex Ha (upd Ha tp (.tup [.int (v : Int), .ref cp])) := Evl.Ex.new ntp
      have htp : (upd Ha tp (.tup [.int (v : Int), .ref cp])) tp = some (.tup [.int (v : Int), .ref cp]) := upd_same
      generalize hHb : upd Ha tp (.tup [.int (v : Int), .ref cp]) = Hb at e4 htp ⊢
      have e34 := e3.trans e4
      have cp0 : H cp = none := hb.fresh g1 ncp
      have cps : cp ≠ st := fun z => by rw [z, hst0] at ncp; cases ncp
      have cpn : cp ≠ nr := fun z => by rw [z, g1] at ncp; cases ncp
      obtain ⟨xs, hxs, hxl, hst'⟩ := hst.snoc e34 (e34 _ _ hst0) htp (hcp.ex e4) cp0 cps cpn hvn (hrep1.fup v hvn) (hrep1.flt v hvn)
      have exs := hxs.symm.trans hst0
      cases exs
      refine ⟨st, _, _, rfl, rfl, e34 _ _ hst0, sz' (by rw [hxl]; omega), ?_⟩
      generalize hHc : upd Hb st (.lst ((List.range c).map (fun x => V.ref (gst x)) ++ [.ref tp])) = Hc at hst' ⊢
      have hbc : But nr H Hc := by
        rw [← hHc]
        intro b o hbn z
        rw [upd_ne (ne_of_none z nst)]
        exact e34 _ _ (hb b o hbn z)
      have g1c : Hc nr = some (.lst ((List.range n).map fun x => V.ref (g x))) := by
        rw [← hHc, upd_ne sn]
        exact e34 _ _ g1
      have g2c : ∀ x, x < n → g x ≠ nr ∧ g x ≠ st ∧ LN Hc (g x) (f1 x) := fun x hx => by
        refine ⟨(g2 x hx).1, (g2 x hx).2.1, ?_⟩
        rw [← hHc]
        unfold LN
        rw [upd_ne (g2 x hx).2.1]
        exact e34 _ _ (g2 x hx).2.2
      have hRc : LN Hc r S1 := by
        rw [← hHc]
        unfold LN
        rw [upd_ne rst]
        exact e34 _ _ hR
      have stc : ∃ xs, Hc st = some (.lst xs) := by
        rw [← hHc]
        exact ⟨_, upd_same⟩
      obtain ⟨sxs, stc⟩ := stc
      -- rest = less(rest, [v])
      refine ⟨.ref r, rfl, .int (v : Int), rfl, sz (by show 1 ≤ 100000; omega), fun ov nov => ?_⟩
      have e5 : Ex Hc (upd Hc ov (.lst [.int (v : Int)])) := Evl.Ex.new nov
      refine ⟨r, ov, S1, [v], rfl, hRc.ex e5, upd_same, by omega, fun r2 Hd nr2 e6 hr2 => ?_⟩
      rw [lessL_one] at hr2
      have e56 := e5.trans e6
      have r2n : Hc r2 = none := Evl.fresh_back e5 nr2
      have r2st : r2 ≠ st := fun z => by rw [z, stc] at r2n; cases r2n
      have r2nr : r2 ≠ nr := fun z => by rw [z, g1c] at r2n; cases r2n
      have r20 : H r2 = none := hbc.fresh g1c r2n
      have hstd : Stp H Hd st nr n (c + 1) := hst'.ex e56
      have hbd : But nr H Hd := hbc.ex e56
      have g1d := e56 _ _ g1c
      have g2d : ∀ x, x < n → g x ≠ nr ∧ g x ≠ st ∧ LN Hd (g x) (f1 x) := fun x hx => ⟨(g2c x hx).1, (g2c x hx).2.1, (g2c x hx).2.2.ex e56⟩
      -- for one in near[v]
      refine ⟨.ref nr, rfl, .int (v : Int), rfl, nr, _, (v : Int), .ref (g v), rfl, rfl, .inl (.inl g1d), gv, g v, rfl, ⟨_, (g2d v hvn).2.2.seq⟩, ?_⟩
      have vnotin : v ∉ f1 v := fun z => by
        have := ((hrep1.mem hvS).1 z).2
        rw [hrep1.irr] at this; cases this
      refine for_list (xs := vN (f1 v)) (fun i σ H2 => ∃ (x5 : Option V), σ = [some (.ref nr), some (.ref r2), some (.ref st), some (.ref sl'), some (.int (v : Int)), x5] ∧ But nr H H2 ∧ But nr Hd H2 ∧
        LLx st H2 nr n (fun x => if x ∈ (f1 v).take i then (rem S1 v).filter (elim A1 v x) else f1 x) ∧ Stp H H2 st nr n (c + 1)) ?_ ?_ ?_ ?_
      · refine ⟨_, rfl, hbd, But.refl _ _, ⟨g, g1d, fun x hx => ?_⟩, hstd⟩
        refine ⟨(g2d x hx).1, (g2d x hx).2.1, ?_⟩
        simp only [List.take_zero, if_neg List.not_mem_nil]
        exact (g2d x hx).2.2
      · rintro i σ H2 _ ⟨x5, rfl, _, hbd2, _⟩
        exact .inl (.inl (hbd2 _ _ (g2d v hvn).1 (g2d v hvn).2.2))
      · rintro i y σ H2 hi ⟨x5, rfl, hb2, hbd2, ⟨g', g1', g2'⟩, hst2'⟩
        have hil : i < (f1 v).length := by have := (List.getElem?_eq_some_iff.1 hi).1; rwa [vN_len] at this
        obtain ⟨one, hone⟩ : ∃ one, (f1 v)[i]? = some one := ⟨_, List.getElem?_eq_getElem hil⟩
        rw [vN_get hone] at hi
        cases hi
        have honem := List.mem_of_getElem? hone
        have honeS := (hrep1.mem hvS).1 honem
        have honen : one < n := hrep1.lt one honeS.1
        have hnot : one ∉ (f1 v).take i := fun z => by
          obtain ⟨j, hj⟩ := List.getElem?_of_mem z
          have hji : j < i := by
            have := (List.getElem?_eq_some_iff.1 hj).1
            rw [List.length_take] at this
            omega
          rw [List.getElem?_take, if_pos hji] at hj
          have := get_inj (hrep1.fup v hvn).nodup hj hone
          omega
        have hvnot : v ∉ (f1 v).take i := fun z => vnotin (List.mem_of_mem_take z)
        have c1 := (g2' one honen).2.2
        simp only [if_neg hnot] at c1
        have c2 := (g2' v hvn).2.2
        simp only [if_neg hvnot] at c2
        have l1 := Up.le_of (hrep1.fup one honen) (hrep1.flt one honen)
        have l2 := Up.le_of (hrep1.fup v hvn) (hrep1.flt v hvn)
        -- near[one] = less(joint(near[one], near[v]), [one, v])
        refine ⟨.ref nr, rfl, .int (one : Int), rfl, nr, _, (one : Int), .ref (g' one), rfl, rfl, .inl (.inl g1'), atI_nat (range_get honen), .ref nr, rfl, .int (v : Int), rfl, nr, _, (v : Int), .ref (g' v), rfl, rfl, .inl (.inl g1'), atI_nat (range_get hvn),
          g' one, g' v, f1 one, f1 v, rfl, c1, c2, by omega, by omega, (hrep1.fup one honen).nodup, (hrep1.fup v hvn).nodup, fun j1 H3 jr nj1 e7 hj1 hJ => ?_⟩
        refine ⟨.int (one : Int), rfl, .int (v : Int), rfl, sz (by show 2 ≤ 100000; omega), fun ol nol => ?_⟩
        have e8 : Ex H3 (upd H3 ol (.lst [.int (one : Int), .int (v : Int)])) := Evl.Ex.new nol
        have jl : jr.length ≤ 1000 := by
          have := Up.le_of (n := n) hJ.up fun x hx => by
            rcases (hJ.mem x).1 hx with z | z
            · exact hrep1.flt one honen x z
            · exact hrep1.flt v hvn x z
          omega
        refine ⟨j1, ol, jr, [one, v], rfl, hj1.ex e8, upd_same, jl, fun nw H4 nnw e9 hnw => ?_⟩
        rw [fold_new hrep1 hvS honem hJ] at hnw
        have e789 := (e7.trans e8).trans e9
        have nw2 : H2 nw = none := Evl.fresh_back (e7.trans e8) nnw
        have nwn : nw ≠ nr := fun z => by rw [z, g1'] at nw2; cases nw2
        have nws : nw ≠ st := fun z => by
          obtain ⟨ga, gb, gc, gd, ge, _⟩ := hst2'
          rw [z, ge] at nw2; cases nw2
        refine ⟨.ref nr, rfl, .int (one : Int), rfl, nr, _, (one : Int), one, rfl, rfl, e789 _ _ g1', Evl.ixN_nat (by simpa using honen), ?_⟩
        have hput := LLx.put (z := st) (H := H4) (a := nr) (q := nw) (n := n) (x := one) (g := g') (e789 _ _ g1') (fun x hx => ⟨(g2' x hx).1, (g2' x hx).2.1, (g2' x hx).2.2.ex e789⟩) honen nwn nws hnw
        refine ⟨_, rfl, ?_, ?_, hput.congr fun x hx => ?_, (hst2'.ex e789).aside (Ne.symm sn) (e789 _ _ g1')⟩
        · exact (hb2.ex e789).upd
        · exact (hbd2.ex e789).upd
        · rw [take_snoc hone]
          by_cases hx1 : x = one
          · rw [if_pos hx1, if_pos (by rw [hx1]; exact List.mem_append_right _ List.mem_cons_self), hx1]
          · rw [if_neg hx1]
            by_cases hx2 : x ∈ (f1 v).take i
            · rw [if_pos hx2, if_pos (List.mem_append_left _ hx2)]
            · rw [if_neg hx2, if_neg fun z => (List.mem_append.1 z).elim hx2 fun z => hx1 (List.mem_singleton.1 z)]
      · rintro σ H2 ⟨x5, rfl, hb2, hbd2, hL2, hst2'⟩
        rw [vN_len, List.take_length] at hL2
        have hL2' : LLx st H2 nr n (folded f1 A1 S1 v) := hL2
        have hr2' : LN H2 r2 (rem S1 v) := hbd2 _ _ r2nr hr2
        have hrep2 := hrep1.fold hvS
        -- slack again
        refine Evl.s_asgL (xs := vN ((rem S1 v).filter (isLow (folded f1 A1 S1 v)))) (el_filter (K := K) (isLow (folded f1 A1 S1 v)) (Evl.ev_var rfl) hr2'.seq (by omega) (fun _ => rfl) (fun x H3 e hx => et_low rfl rfl (hL2'.ll.ex e) (hrep2.lt x hx)) (fun x H3 => Evl.ev_var rfl)) (fun sl2 H3 nsl2 e10 hsl2 => ?_)
        exact ⟨r2, sl2, x5, rfl, hb2.ex e10, hL2'.ex e10, hr2'.ex e10, r2st, r2nr, .inr r20, hsl2, hst2'.ex e10⟩
    · -- return (steps, rest)
      have hnil : S1.filter (isLow f1) = [] := by
        cases h : S1.filter (isLow f1) with
        | nil => rfl
        | cons v r =>
          rw [h] at k
          exact absurd (decide_eq_true (by rw [vN_len]; simp)) k
      refine ⟨.ref st, rfl, .ref r, rfl, sz (by show 2 ≤ 100000; omega), fun tp ntp => ?_⟩
      have e3 : Ex H' (upd H' tp (.tup [.ref st, .ref r])) := Evl.Ex.new ntp
      have tp0 : H tp = none := by
        obtain ⟨g, g1, _⟩ := hN
        exact hb.fresh g1 ntp
      refine q tp st r _ f1 S1 A1 c tp0 nst (hb.ex e3) upd_same (by omega) (hst.ex e3) (hR.ex e3) rold (hN.ll.ex e3) hF fun v hv hlow => ?_
      have : v ∈ S1.filter (isLow f1) := List.mem_filter.2 ⟨hv, decide_eq_true hlow⟩
      rw [hnil] at this
      cases this
end
end Bw
/-! ### D_folds -/
namespace Bw
open PySem PySem.Spec PyProof.Rows L2
theorem rgV_vN (n : Nat) : rgV 0 (n : Int) = vN (List.range n) := by
  unfold rgV vN
  have : ((n : Int) - 0).toNat = n := by omega
  rw [this]
  apply List.map_congr_left
  intro x _
  rw [Int.zero_add]
/-- the graph itself, as it stands ahead of folding -/
theorem rep_web {n : Nat} {ties : Ties} (ok : TOk n ties) : Rep n (fun v => (List.range n).filter (adjT ties v)) (List.range n) (adjT ties) where
  sym := adjT_sym ties
  irr := ok.irr
  up := Up.range n
  lt := fun x hx => List.mem_range.1 hx
  fup := fun x _ => (Up.range n).filter _
  flt := fun x _ y hy => List.mem_range.1 (List.mem_filter.1 hy).1
  eq := fun _ _ => rfl
section
variable {P : Program} {w : World} {K : PySem.W.Frag} {mg : Str → Option Value} {base : Heap}
def sp_folds : Sp := fun vs H Q _ => ∃ (a : Addr) (n : Nat) (ties : Ties), vs = [.ref a] ∧ WebAt H a n ties ∧ n ≤ 7 ∧ TOk n ties ∧
  ∀ t st r H' S', H t = none → Ex H H' → H' t = some (.tup [.ref st, .ref r]) → LN H' r S' → (S' = [] ↔ El 2 (adjT ties) (List.range n)) → Q (.ref t) H'
theorem ok_folds (L_folds : Df K mg "folds" s_folds P_folds) (L_around : Df K mg "around" s_around P_around) (L_fold_away : Df K mg "fold_away" s_fold_away P_fold_away) (L_less : Df K mg "less" s_less P_less) (L_joint : Df K mg "joint" s_joint P_joint) (B : Bi mg) :
    FnOk P w K mg base CX0 4 L_folds.f L_folds.fd P_folds sp_folds := by
  have G_around := ok_around (P := P) (w := w) (K := K) (base := base) L_around B
  have G_fold_away := ok_fold_away (P := P) (w := w) (K := K) (base := base) L_fold_away L_less L_joint B
  refine L_folds.F.ok sc_folds (fun vs H Q E h => ?_) (fun cdv A outer s H vs Q E hr h => ?_)
  · obtain ⟨a, n, ties, rfl, _⟩ := h
    rfl
  · obtain ⟨a, n, ties, rfl, hweb, hn, ok, q⟩ := h
    refine ⟨_, (pss_cons (ps_setLc (i := 1) (own := [("v", 2)]) (g := gName 2) (tt := tYes) rfl sc_folds.nd rfl rfl (sw_true rfl rfl rfl (by decide +kernel)) (pi_range1 (by rfl) B.range_ (pa_cons (pe_ix (kIxT (K := K)) (pv 0) pe_int (fun _ _ => rfl)) pa_nil)) (blkOk_by (own := [("v", 2)]) (N := N_folds) (sc := defScope s_folds) (by decide +kernel)) (fun _ _ _ _ _ => pg_name (i := 2) sc_folds.nd rfl (Or.inl rfl)) (fun _ _ _ _ _ => pts_nil) (fun _ _ _ _ _ => (pe_call G_around (hr.mono (by decide)) (by rfl) L_around.g L_around.F.kp L_around.b .nil pass0 (pa_cons (pv 0) (pa_cons (pv 2) pa_nil)))))
 (pss_one (ps_ret (pe_call G_fold_away (hr.mono (by decide)) (by rfl) L_fold_away.g L_fold_away.F.kp L_fold_away.b .nil pass0 (pa_cons (pv 1) (pa_cons (pe_listRg rfl (by rfl) B.list_ (prg_1 (by rfl) B.range_ (pe_ix (kIxT (K := K)) (pv 0) pe_int (fun _ _ => rfl)))) pa_nil)))))), ?_⟩
    obtain ⟨tl, hw, htl⟩ := id hweb
    have i0 : atI [V.int (n : Int), V.ref tl] 0 = some (.int (n : Int)) := atI_nat (j := 0) rfl
    refine seq_of (asg_of ?_)
    refine lcr_lists (n := n) (fun v => (List.range n).filter (adjT ties v)) (Evl.ea_cons (Evl.ev_op (Evl.ev_var rfl) Evl.ev_c (Evl.rv_ixT (K := K) (.inl (.inl hw)) i0)) Evl.ea_nil) (by omega) (fun _ => rfl) (fun i H1 e1 hi Q' k => ?_) (fun nr H1 nnr e1 hnr => ?_)
    · exact ⟨.ref a, rfl, .int (i : Int), rfl, a, n, i, ties, rfl, hweb.ex e1, hn, ok, hi, fun p H2 np e2 hp => k p H2 np e2 hp⟩
    · refine ⟨.ref nr, rfl, .ref a, rfl, a, _, 0, _, rfl, rfl, .inl (.inl (e1 _ _ hw)), i0, (n : Int), rfl, RgOk.of_le (by omega) (by omega) (by omega) (by omega), fun rg nrg => ?_⟩
      rw [rgV_vN]
      have e2 : Ex H1 (upd H1 rg (.lst (vN (List.range n)))) := Evl.Ex.new nrg
      have nrne : nr ≠ rg := by
        obtain ⟨g, h1, _⟩ := hnr
        exact ne_of_none h1 nrg
      refine ⟨nr, rg, n, _, List.range n, adjT ties, rfl, hnr.ex e2, upd_same, nrne, hn, rep_web ok, fun t st r H' f' S' A' m nt _ hb ht _ _ hr _ _ hF hfull => ?_⟩
      exact q t st r H' S' (Evl.fresh_back (e1.trans e2) nt) (But.new (e1.trans e2) hb nnr) ht hr (hF.stop hfull)
end
end Bw
/-! ### D_take_up -/
namespace Bw
open PySem PySem.Spec PyProof.Rows L2
section
variable {P : Program} {w : World} {K : PySem.W.Frag} {mg : Str → Option Value} {base : Heap}
def sp_take_up : Sp := fun vs H Q _ => ∃ (H0 : Hp) (hd st : Addr) (n m : Nat) (h : Nat → List Nat), vs = [.ref hd, .ref st] ∧ LL H hd n h ∧ Held n h ∧ n ≤ 7 ∧ Stp H0 H st hd n m ∧ m ≤ n ∧ st ≠ hd ∧
  ∀ H' h', But hd H H' → LL H' hd n h' → Held n h' → Q .non H'
theorem ok_take_up (L_take_up : Df K mg "take_up" s_take_up P_take_up) (L_joint : Df K mg "joint" s_joint P_joint) (L_less : Df K mg "less" s_less P_less) (B : Bi mg) : FnOk P w K mg base CX0 3 L_take_up.f L_take_up.fd P_take_up sp_take_up := by
  have G_joint := ok_joint (P := P) (w := w) (K := K) (base := base) L_joint L_less B
  refine L_take_up.F.ok sc_take_up (fun vs H Q E h => ?_) (fun cdv A outer s H vs Q E hr h => ?_)
  · obtain ⟨H0, hd, st, n, m, h, rfl, _⟩ := h
    rfl
  · obtain ⟨H0, hd, st, n, m, h0, rfl, hL, hH, hn, ⟨g, hh, k, N, g1, g2⟩, hm, hsd, q⟩ := h
    refine ⟨_, (pss_one (ps_for PassesOwn.never rfl (pi_list (pv 1)) (pg_tup rfl (pgs_cons (pg_name (i := 2) sc_take_up.nd rfl (Or.inl rfl)) (pgs_cons (pg_name (i := 3) sc_take_up.nd rfl (Or.inl rfl)) pgs_nil))) (pss_one (ps_if (pt_cmpR op_eq (pe_callB (kLen (K := K)) (by rfl) B.len_ PySem.boot_len (pa_cons (pv 3) pa_nil)) pe_int (nomark _)) (pss_one (ps_asg (pe_call G_joint (hr.mono (by decide)) (by rfl) L_joint.g L_joint.F.kp L_joint.b .nil pass0 (pa_cons (pe_ix (kIxL (K := K)) (pv 0) (pe_ix (kIxL (K := K)) (pv 3) pe_int (fun _ _ => rfl)) (fun _ _ => rfl)) (pa_cons (pe_ix (kIxL (K := K)) (pv 0) (pv 2) (fun _ _ => rfl)) pa_nil))) (pg_sub (pv 0) (pe_ix (kIxL (K := K)) (pv 3) pe_int (fun _ _ => rfl)) set_list))) pss_nil)))), ?_⟩
    refine ⟨.ref st, rfl, st, rfl, ⟨_, .inl (.inl g1)⟩, ?_⟩
    have hdl : ∃ xs, H hd = some (.lst xs) := by
      obtain ⟨g, h1, _⟩ := hL
      exact ⟨_, h1⟩
    obtain ⟨xs, hdl⟩ := hdl
    refine for_list (xs := (List.range m).map fun x => V.ref (g x)) (fun i σ H' => ∃ (x2 x3 : Option V) (h1 : Nat → List Nat), σ = [some (.ref hd), some (.ref st), x2, x3] ∧ But hd H H' ∧ LL H' hd n h1 ∧ Held n h1) ?_ ?_ ?_ ?_
    · exact ⟨none, none, h0, rfl, But.refl _ _, hL, hH⟩
    · rintro i σ H' _ ⟨x2, x3, h1, rfl, hb, _⟩
      exact .inl (.inl (hb _ _ hsd g1))
    · rintro i x σ H' hi ⟨x2, x3, h1, rfl, hb, hL1, hH1⟩
      have hil : i < m := by have := (List.getElem?_eq_some_iff.1 hi).1; simpa using this
      rw [range_get hil] at hi
      cases hi
      obtain ⟨_, _, a3, a4, a5, a6, a7, a8⟩ := g2 i hil
      have hgi : H' (g i) = some (.tup [.int (k i : Int), .ref (hh i)]) := hb _ _ (ne_of a7 hdl fun e => by cases e) a7
      have hhi : LN H' (hh i) (N i) := hb _ _ a3 a8
      refine ⟨g i, _, rfl, .inl (.inl hgi), rfl, .int (k i : Int), _, rfl, .ref (hh i), [], rfl, rfl, ?_⟩
      -- if len(near) == 2
      refine ⟨.ref (hh i), rfl, hh i, vN (N i), rfl, .inl hhi.seq, rfl, _, rfl, ite2 (fun c => ?_) (fun c => ?_)⟩
      · have h2 : (N i).length = 2 := by
          have := V.int.inj (of_decide_eq_true c)
          rw [vN_len] at this
          omega
        obtain ⟨y, hy⟩ : ∃ y, (N i)[0]? = some y := ⟨_, List.getElem?_eq_getElem (by omega)⟩
        have hyn : y < n := a6 y (List.mem_of_getElem? hy)
        obtain ⟨g', e1, e2⟩ := id hL1
        have gy := atI_nat (range_get (g := fun x => V.ref (g' x)) hyn)
        have gk := atI_nat (range_get (g := fun x => V.ref (g' x)) a4)
        have s1 := hH1.size hyn
        have s2 := hH1.size a4
        refine ⟨.ref hd, rfl, .ref (hh i), rfl, hh i, vN (N i), 0, .int (y : Int), rfl, rfl, hhi.seq, atI_nat (j := 0) (vN_get hy), hd, _, (y : Int), .ref (g' y), rfl, rfl, .inl (.inl e1), gy,
          .ref hd, rfl, .int (k i : Int), rfl, hd, _, (k i : Int), .ref (g' (k i)), rfl, rfl, .inl (.inl e1), gk,
          g' y, g' (k i), h1 y, h1 (k i), rfl, (e2 y hyn).2, (e2 (k i) a4).2, by omega, by omega, (hH1 y hyn).1, (hH1 (k i) a4).1, fun p H2 r np e3 hp hJ => ?_⟩
        have hpd : p ≠ hd := fun z => by rw [z, e1] at np; cases np
        refine ⟨.ref hd, rfl, .ref (hh i), rfl, hh i, vN (N i), 0, .int (y : Int), rfl, rfl, (hhi.ex e3).seq, atI_nat (j := 0) (vN_get hy), hd, _, (y : Int), y, rfl, rfl, e3 _ _ e1, Evl.ixN_nat (by simpa using hyn), ?_⟩
        refine ⟨_, _, _, rfl, (hb.ex e3).upd, LL.put (e3 _ _ e1) (fun x hx => ⟨(e2 x hx).1, (e2 x hx).2.ex e3⟩) hyn hpd hp, hH1.put (hH1 y hyn).2 (hH1 (k i) a4).2 hJ⟩
      · exact ⟨_, _, h1, rfl, hb, hL1, hH1⟩
    · rintro σ H' ⟨x2, x3, h1, rfl, hb, hL1, hH1⟩
      exact q H' h1 hb hL1 hH1
end
end Bw
/-! ### D_drawn_together -/
namespace Bw
open PySem PySem.Spec PyProof.Rows L2
/-- on the way: the places of done have a, too -/
structure Drw (n : Nat) (f g : Nat → List Nat) (a b : Nat) (done : List Nat) : Prop where
  up : ∀ x, x < n → Up (g x)
  hit : ∀ x, x < n → x ∈ done → x ≠ a → ∀ y, y ∈ g x ↔ (y ∈ f x ∧ y ≠ b) ∨ y = a
  miss : ∀ x, x < n → ¬ (x ∈ done ∧ x ≠ a) → g x = rem (f x) b
theorem Drw.start {n : Nat} {f : Nat → List Nat} {a b : Nat} (hf : ∀ x, x < n → Up (f x)) : Drw n f (fun x => rem (f x) b) a b [] :=
  ⟨fun x hx => (hf x hx).rem b, fun x _ h => (nomatch h), fun _ _ _ => rfl⟩
theorem Drw.hop {n : Nat} {f g : Nat → List Nat} {a b : Nat} {done : List Nat} (h : Drw n f g a b done) : Drw n f g a b (done ++ [a]) where
  up := h.up
  hit := fun x hx hm hne => by
    rcases List.mem_append.1 hm with q | q
    · exact h.hit x hx q hne
    · exact absurd (List.mem_singleton.1 q) hne
  miss := fun x hx hno => h.miss x hx fun q => hno ⟨List.mem_append_left _ q.1, q.2⟩
theorem Drw.add {n : Nat} {f g : Nat → List Nat} {a b p : Nat} {done r : List Nat} (h : Drw n f g a b done) (hp : p < n) (hpd : p ∉ done) (hpa : p ≠ a) (hr : IsJoint (g p) [a] r) : Drw n f (fun z => if z = p then r else g z) a b (done ++ [p]) where
  up := fun x hx => by
    by_cases e : x = p
    · simp only [if_pos e]; exact hr.up
    · simp only [if_neg e]; exact h.up x hx
  hit := fun x hx hm hne y => by
    by_cases e : x = p
    · subst e
      simp only [if_pos]
      rw [hr.mem, h.miss x hx fun q => hpd q.1, mem_rem, List.mem_singleton]
    · simp only [if_neg e]
      rcases List.mem_append.1 hm with q | q
      · exact h.hit x hx q hne y
      · exact absurd (List.mem_singleton.1 q) e
  miss := fun x hx hno => by
    by_cases e : x = p
    · exact absurd ⟨by rw [e]; exact List.mem_append_right _ List.mem_cons_self, by rw [e]; exact hpa⟩ hno
    · simp only [if_neg e]
      exact h.miss x hx fun q => hno ⟨List.mem_append_left _ q.1, q.2⟩
theorem Drw.last {n : Nat} {f g : Nat → List Nat} {a b : Nat} {r : List Nat} (h : Drw n f g a b (f b)) (hr : IsJoint (f a) (f b) r) : IsDrawn n f (fun z => if z = a then lessL r [a, b] else g z) a b where
  up := fun x hx => by
    by_cases e : x = a
    · simp only [if_pos e]; exact hr.up.filter _
    · simp only [if_neg e]; exact h.up x hx
  at_a := fun y => by
    simp only [if_pos]
    rw [mem_lessL, hr.mem]
    simp only [List.mem_cons, List.not_mem_nil, or_false, not_or]
  hit := fun x hx hne hm y => by
    simp only [if_neg hne]
    exact h.hit x hx hm hne y
  other := fun x hx hne hm y => by
    simp only [if_neg hne]
    rw [h.miss x hx fun q => hm q.1, mem_rem]
section
variable {P : Program} {w : World} {K : PySem.W.Frag} {mg : Str → Option Value} {base : Heap}
def sp_drawn_together : Sp := fun vs H Q _ => ∃ (nr : Addr) (n a b : Nat) (f : Nat → List Nat), vs = [.ref nr, .int (a : Int), .int (b : Int)] ∧ LL H nr n f ∧ n ≤ 7 ∧ a < n ∧ b < n ∧ (∀ x, x < n → Up (f x)) ∧ (∀ x, x < n → ∀ y ∈ f x, y < n) ∧
  ∀ p H' g, H p = none → Ex H H' → LL H' p n g → IsDrawn n f g a b → Q (.ref p) H'
theorem ok_drawn_together (L_drawn_together : Df K mg "drawn_together" s_drawn_together P_drawn_together) (L_joint : Df K mg "joint" s_joint P_joint) (L_less : Df K mg "less" s_less P_less) (B : Bi mg) : FnOk P w K mg base CX0 3 L_drawn_together.f L_drawn_together.fd P_drawn_together sp_drawn_together := by
  have G_less := ok_less (P := P) (w := w) (K := K) (base := base) L_less B
  have G_joint := ok_joint (P := P) (w := w) (K := K) (base := base) L_joint L_less B
  refine L_drawn_together.F.ok sc_drawn_together (fun vs H Q E h => ?_) (fun cdv A outer s H vs Q E hr h => ?_)
  · obtain ⟨nr, n, a, b, f, rfl, _⟩ := h
    rfl
  · obtain ⟨nr, n, a, b, f, rfl, hnr, hn, ha, hb, fup, flt, q⟩ := h
    refine ⟨_, (pss_cons (ps_setLc (i := 3) (own := [("places", 5)]) (g := gName 5) (tt := tYes) rfl sc_drawn_together.nd rfl rfl (sw_true rfl rfl rfl (by decide +kernel)) (pi_list (pv 0)) (blkOk_by (own := [("places", 5)]) (N := N_drawn_together) (sc := defScope s_drawn_together) (by decide +kernel)) (fun _ _ _ _ _ => pg_name (i := 5) sc_drawn_together.nd rfl (Or.inl rfl)) (fun _ _ _ _ _ => pts_nil) (fun _ _ _ _ _ => (pe_call G_less (hr.mono (by decide)) (by rfl) L_less.g L_less.F.kp L_less.b .nil pass0 (pa_cons (pv 5) (pa_cons (pe_lst (pa_cons (pv 2) pa_nil)) pa_nil)))))
 (pss_cons (ps_for PassesOwn.never rfl (pi_list (pe_ix (kIxL (K := K)) (pv 0) (pv 2) (fun _ _ => rfl))) (pg_name (i := 4) sc_drawn_together.nd rfl (Or.inl rfl)) (pss_one (ps_if (pt_cmpR op_ne (pv 4) (pv 1) (nomark _)) (pss_one (ps_asg (pe_call G_joint (hr.mono (by decide)) (by rfl) L_joint.g L_joint.F.kp L_joint.b .nil pass0 (pa_cons (pe_ix (kIxL (K := K)) (pv 3) (pv 4) (fun _ _ => rfl)) (pa_cons (pe_lst (pa_cons (pv 1) pa_nil)) pa_nil))) (pg_sub (pv 3) (pv 4) set_list))) pss_nil)))
 (pss_cons (ps_asg (pe_call G_less (hr.mono (by decide)) (by rfl) L_less.g L_less.F.kp L_less.b .nil pass0 (pa_cons (pe_call G_joint (hr.mono (by decide)) (by rfl) L_joint.g L_joint.F.kp L_joint.b .nil pass0 (pa_cons (pe_ix (kIxL (K := K)) (pv 0) (pv 1) (fun _ _ => rfl)) (pa_cons (pe_ix (kIxL (K := K)) (pv 0) (pv 2) (fun _ _ => rfl)) pa_nil))) (pa_cons (pe_lst (pa_cons (pv 1) (pa_cons (pv 2) pa_nil))) pa_nil))) (pg_sub (pv 3) (pv 1) set_list))
 (pss_one (ps_ret (pv 3)))))), ?_⟩
    have fsz : ∀ x, x < n → (f x).length ≤ n := fun x hx => Up.le_of (fup x hx) (flt x hx)
    obtain ⟨g, g1, g2⟩ := id hnr
    have hxl : ((List.range n).map fun x => V.ref (g x)).length = n := by simp
    -- fresh = [less(places, [other]) for places in near]
    refine seq_of (asg_of ?_)
    refine lc_lists (K := K) (xs := (List.range n).map fun x => V.ref (g x)) (fun x => rem (f x) b) (Evl.ev_var rfl) (.inl (.inl g1)) (by omega) (fun _ => rfl) (fun i x H1 e1 hi Q' k => ?_) (fun fr H1 nfr e1 hfr => ?_)
    · have hil : i < n := by have := (List.getElem?_eq_some_iff.1 hi).1; simpa using this
      rw [range_get hil] at hi
      cases hi
      refine ⟨.ref (g i), rfl, .int (b : Int), rfl, sz (by show 1 ≤ 100000; omega), fun o no => ?_⟩
      have e2 : Ex H1 (upd H1 o (.lst [.int (b : Int)])) := Evl.Ex.new no
      have := fsz i hil
      refine ⟨g i, o, f i, [b], rfl, (g2 i hil).2.ex (e1.trans e2), upd_same, by omega, fun p H2 np e3 hp => ?_⟩
      rw [lessL_one] at hp
      exact k p H2 (Evl.fresh_back e2 np) (e2.trans e3) hp
    · rw [hxl] at hfr
      have gb : ∀ {H2 : Hp}, Ex H H2 → LN H2 (g b) (f b) := fun e => (g2 b hb).2.ex e
      have ab := atI_nat (range_get (g := fun x => V.ref (g x)) hb)
      have aa := atI_nat (range_get (g := fun x => V.ref (g x)) ha)
      -- for place in near[other]
      refine ⟨.ref nr, rfl, .int (b : Int), rfl, nr, _, (b : Int), .ref (g b), rfl, rfl, .inl (.inl (e1 _ _ g1)), ab, g b, rfl, ⟨_, (gb e1).seq⟩, ?_⟩
      refine for_list (xs := vN (f b)) (fun i σ H' => ∃ (x4 x5 : Option V) (φ : Nat → List Nat), σ = [some (.ref nr), some (.int (a : Int)), some (.int (b : Int)), some (.ref fr), x4, x5] ∧ Ex H H' ∧ LL H' fr n φ ∧ Drw n f φ a b ((f b).take i)) ?_ ?_ ?_ ?_
      · exact ⟨_, _, _, rfl, e1, hfr, Drw.start fup⟩
      · rintro i σ H' _ ⟨x4, x5, φ, rfl, e, _⟩
        exact (gb e).seq
      · rintro i x σ H' hi ⟨x4, x5, φ, rfl, e, hφ, hD⟩
        have hil : i < (f b).length := by have := (List.getElem?_eq_some_iff.1 hi).1; rwa [vN_len] at this
        obtain ⟨p, hp⟩ : ∃ p, (f b)[i]? = some p := ⟨_, List.getElem?_eq_getElem hil⟩
        rw [vN_get hp] at hi
        cases hi
        have hpm := List.mem_of_getElem? hp
        have hpn : p < n := flt b hb p hpm
        have htake := take_snoc hp
        refine ⟨.int (p : Int), rfl, .int (a : Int), rfl, rfl, _, rfl, ite2 (fun c => ?_) (fun c => ?_)⟩
        · have hpa : p ≠ a := fun e => by
            rw [e, decide_eq_true rfl] at c; cases c
          have hnot : p ∉ (f b).take i := fun z => by
            obtain ⟨j, hj⟩ := List.getElem?_of_mem z
            have hji : j < i := by
              have := (List.getElem?_eq_some_iff.1 hj).1
              rw [List.length_take] at this
              omega
            rw [List.getElem?_take, if_pos hji] at hj
            have := get_inj (fup b hb).nodup hj hp
            omega
          obtain ⟨g', k1, k2⟩ := id hφ
          have hφp : φ p = rem (f p) b := hD.miss p hpn fun q => hnot q.1
          have hφl : (φ p).length ≤ n := by
            rw [hφp]
            have : (rem (f p) b).length ≤ (f p).length := List.length_filter_le _ _
            have := fsz p hpn
            omega
          -- fresh[place] = joint(fresh[place], [one])
          refine ⟨.ref fr, rfl, .int (p : Int), rfl, fr, _, (p : Int), .ref (g' p), rfl, rfl, .inl (.inl k1), atI_nat (range_get hpn), .int (a : Int), rfl, sz (by show 1 ≤ 100000; omega), fun o no => ?_⟩
          have e2 : Ex H' (upd H' o (.lst [.int (a : Int)])) := Evl.Ex.new no
          refine ⟨g' p, o, φ p, [a], rfl, (k2 p hpn).2.ex e2, upd_same, by omega, by show 1 ≤ 1000; omega, (hD.up p hpn).nodup, by simp, fun np H2 r nnp e3 hnp hJ => ?_⟩
          have npf : np ≠ fr := fun z => by
            rw [z, e2 _ _ k1] at nnp; cases nnp
          refine ⟨.ref fr, rfl, .int (p : Int), rfl, fr, _, (p : Int), p, rfl, rfl, e3 _ _ (e2 _ _ k1), Evl.ixN_nat (by simpa using hpn), ?_⟩
          refine ⟨_, _, _, rfl, Evl.Ex.mut ((e.trans e2).trans e3) nfr, LL.put (e3 _ _ (e2 _ _ k1)) (fun x hx => ⟨(k2 x hx).1, (k2 x hx).2.ex (e2.trans e3)⟩) hpn npf hnp, ?_⟩
          rw [htake]
          exact hD.add hpn hnot hpa hJ
        · have hpa : p = a := by
            cases h : decide (V.int (p : Int) = V.int (a : Int)) with
            | true => exact eqN h
            | false => rw [h] at c; exact absurd rfl c
          refine ⟨_, _, φ, rfl, e, hφ, ?_⟩
          rw [htake, hpa]
          exact hD.hop
      · rintro σ H' ⟨x4, x5, φ, rfl, e, hφ, hD⟩
        rw [vN_len, List.take_length] at hD
        have sa := fsz a ha
        have sb := fsz b hb
        -- fresh[one] = less(joint(near[one], near[other]), [one, other])
        refine ⟨.ref nr, rfl, .int (a : Int), rfl, nr, _, (a : Int), .ref (g a), rfl, rfl, .inl (.inl (e _ _ g1)), aa, .ref nr, rfl, .int (b : Int), rfl, nr, _, (b : Int), .ref (g b), rfl, rfl, .inl (.inl (e _ _ g1)), ab,
          g a, g b, f a, f b, rfl, (g2 a ha).2.ex e, (g2 b hb).2.ex e, by omega, by omega, (fup a ha).nodup, (fup b hb).nodup, fun j1 H2 jr nj1 e2 hj1 hJ => ?_⟩
        refine ⟨.int (a : Int), rfl, .int (b : Int), rfl, sz (by show 2 ≤ 100000; omega), fun o no => ?_⟩
        have e3 : Ex H2 (upd H2 o (.lst [.int (a : Int), .int (b : Int)])) := Evl.Ex.new no
        have jl : jr.length ≤ 1000 := by
          have := Up.le_of (n := n) hJ.up fun x hx => by
            rcases (hJ.mem x).1 hx with z | z
            · exact flt a ha x z
            · exact flt b hb x z
          omega
        refine ⟨j1, o, jr, [a, b], rfl, hj1.ex e3, upd_same, jl, fun nw H3 nnw e4 hnw => ?_⟩
        obtain ⟨g', k1, k2⟩ := id hφ
        have e234 := (e2.trans e3).trans e4
        have nwf : nw ≠ fr := fun z => by
          rw [z, e3 _ _ (e2 _ _ k1)] at nnw; cases nnw
        refine ⟨.ref fr, rfl, .int (a : Int), rfl, fr, _, (a : Int), a, rfl, rfl, e234 _ _ k1, Evl.ixN_nat (by simpa using ha), ?_⟩
        refine ⟨.ref fr, rfl, ?_⟩
        exact q fr _ _ nfr (Evl.Ex.mut (e.trans e234) nfr) (LL.put (e234 _ _ k1) (fun x hx => ⟨(k2 x hx).1, (k2 x hx).2.ex e234⟩) ha nwf hnw) (hD.last hJ)
end
end Bw
/-! ### D_one_fewer -/
namespace Bw
open PySem PySem.Spec PyProof.Rows L2
section
variable {P : Program} {w : World} {K : PySem.W.Frag} {mg : Str → Option Value} {base : Heap}
def sp_one_fewer : Sp := fun vs H Q _ => ∃ (nr hd rs : Addr) (n : Nat) (f h : Nat → List Nat) (S : List Nat) (A : Adj), vs = [.ref nr, .ref hd, .ref rs] ∧ LL H nr n f ∧ LL H hd n h ∧ Held n h ∧ LN H rs S ∧ Rest n f S A ∧ 5 ≤ S.length ∧ n ≤ 7 ∧
  ∀ t fr se lf H' f' h' S' A', H t = none → Ex H H' → H' t = some (.tup [.ref fr, .ref se, .ref lf]) → LL H' fr n f' → LL H' se n h' → fr ≠ se → Held n h' → LN H' lf S' → Rest n f' S' A' → S' ≠ [] → S'.length < S.length → Q (.ref t) H'
theorem ok_one_fewer (L_one_fewer : Df K mg "one_fewer" s_one_fewer P_one_fewer) (L_drawn_together : Df K mg "drawn_together" s_drawn_together P_drawn_together) (L_fold_away : Df K mg "fold_away" s_fold_away P_fold_away) (L_take_up : Df K mg "take_up" s_take_up P_take_up)
    (L_joint : Df K mg "joint" s_joint P_joint) (L_less : Df K mg "less" s_less P_less) (B : Bi mg) : FnOk P w K mg base CX0 4 L_one_fewer.f L_one_fewer.fd P_one_fewer sp_one_fewer := by
  have G_less := ok_less (P := P) (w := w) (K := K) (base := base) L_less B
  have G_joint := ok_joint (P := P) (w := w) (K := K) (base := base) L_joint L_less B
  have G_drawn_together := ok_drawn_together (P := P) (w := w) (K := K) (base := base) L_drawn_together L_joint L_less B
  have G_fold_away := ok_fold_away (P := P) (w := w) (K := K) (base := base) L_fold_away L_less L_joint B
  have G_take_up := ok_take_up (P := P) (w := w) (K := K) (base := base) L_take_up L_joint L_less B
  refine L_one_fewer.F.ok sc_one_fewer (fun vs H Q E h => ?_) (fun cdv A outer s H vs Q E hr h => ?_)
  · obtain ⟨nr, hd, rs, n, f, h, S, A, rfl, _⟩ := h
    rfl
  · obtain ⟨nr, hd, rs, n, f, h, S, A0, rfl, hnr, hhd, hH, hrs, hR, h5, hn, q⟩ := h
    refine ⟨_, (pss_cons (ps_for PassesOwn.never rfl (pi_list (pv 2)) (pg_name (i := 3) sc_one_fewer.nd rfl (Or.inl rfl)) (pss_one (ps_for PassesOwn.never rfl (pi_list (pe_ix (kIxL (K := K)) (pv 0) (pv 3) (fun _ _ => rfl))) (pg_name (i := 4) sc_one_fewer.nd rfl (Or.inl rfl)) (pss_cons (ps_set (i := 5) sc_one_fewer.nd rfl (Or.inl rfl) (pe_call G_drawn_together (hr.mono (by decide)) (by rfl) L_drawn_together.g L_drawn_together.F.kp L_drawn_together.b .nil pass0 (pa_cons (pv 0) (pa_cons (pv 3) (pa_cons (pv 4) pa_nil)))))
 (pss_cons (ps_asg (pe_call G_fold_away (hr.mono (by decide)) (by rfl) L_fold_away.g L_fold_away.F.kp L_fold_away.b .nil pass0 (pa_cons (pv 5) (pa_cons (pe_call G_less (hr.mono (by decide)) (by rfl) L_less.g L_less.F.kp L_less.b .nil pass0 (pa_cons (pv 2) (pa_cons (pe_lst (pa_cons (pv 4) pa_nil)) pa_nil))) pa_nil))) (pg_tup rfl (pgs_cons (pg_name (i := 6) sc_one_fewer.nd rfl (Or.inl rfl)) (pgs_cons (pg_name (i := 7) sc_one_fewer.nd rfl (Or.inl rfl)) pgs_nil))))
 (pss_one (ps_if (pt_cmpR op_gt (pe_callB (kLen (K := K)) (by rfl) B.len_ PySem.boot_len (pa_cons (pv 7) pa_nil)) pe_int (nomark _)) (pss_cons (ps_setLc (i := 8) (own := [("part", 9)]) (g := gName 9) (tt := tYes) rfl sc_one_fewer.nd rfl rfl (sw_true rfl rfl rfl (by decide +kernel)) (pi_list (pv 1)) (blkOk_by (own := [("part", 9)]) (N := N_one_fewer) (sc := defScope s_one_fewer) (by decide +kernel)) (fun _ _ _ _ _ => pg_name (i := 9) sc_one_fewer.nd rfl (Or.inl rfl)) (fun _ _ _ _ _ => pts_nil) (fun _ _ _ _ _ => (pe_callTy (kList (K := K)) (by rfl) B.list_ PyProof.Rows.boot_list (pa_cons (pv 9) pa_nil))))
 (pss_cons (ps_asg (pe_call G_joint (hr.mono (by decide)) (by rfl) L_joint.g L_joint.F.kp L_joint.b .nil pass0 (pa_cons (pe_ix (kIxL (K := K)) (pv 8) (pv 3) (fun _ _ => rfl)) (pa_cons (pe_ix (kIxL (K := K)) (pv 8) (pv 4) (fun _ _ => rfl)) pa_nil))) (pg_sub (pv 8) (pv 3) set_list))
 (pss_cons (ps_expr (pe_call G_take_up (hr.mono (by decide)) (by rfl) L_take_up.g L_take_up.F.kp L_take_up.b .nil pass0 (pa_cons (pv 8) (pa_cons (pv 6) pa_nil))))
 (pss_one (ps_ret (pe_tup (pa_cons (pv 5) (pa_cons (pv 8) (pa_cons (pv 7) pa_nil))))))))) pss_nil)))))))
 (pss_one (ps_ret (pe_tup (pa_cons (pv 0) (pa_cons (pv 1) (pa_cons (pe_lst pa_nil) pa_nil))))))), ?_⟩
    have hrep := hR.rep
    have hSn : S.length ≤ n := hrep.up.le_of hrep.lt
    obtain ⟨g, g1, g2⟩ := id hnr
    obtain ⟨gh, gh1, gh2⟩ := id hhd
    have hxl : ((List.range n).map fun x => V.ref (gh x)).length = n := by simp
    -- for one in rest
    refine ⟨.ref rs, rfl, rs, rfl, ⟨_, hrs.seq⟩, ?_⟩
    refine for_list (xs := vN S) (fun i σ H' => ∃ (x3 x4 x5 x6 x7 x8 x9 : Option V), σ = [some (.ref nr), some (.ref hd), some (.ref rs), x3, x4, x5, x6, x7, x8, x9] ∧ Ex H H' ∧ ∀ a ∈ S.take i, ∀ b ∈ f a, El 2 (contr A0 a b) (rem S b)) ?_ ?_ ?_ ?_
    · exact ⟨none, none, none, none, none, none, none, rfl, Evl.Ex.refl H, fun a ha => by simp at ha⟩
    · rintro i σ H' _ ⟨x3, x4, x5, x6, x7, x8, x9, rfl, e, _⟩
      exact (hrs.ex e).seq
    · rintro i x σ H' hi ⟨x3, x4, x5, x6, x7, x8, x9, rfl, e, hno⟩
      have hil : i < S.length := by have := (List.getElem?_eq_some_iff.1 hi).1; rwa [vN_len] at this
      obtain ⟨a, ha⟩ : ∃ a, S[i]? = some a := ⟨_, List.getElem?_eq_getElem hil⟩
      rw [vN_get ha] at hi
      cases hi
      have haS := List.mem_of_getElem? ha
      have han : a < n := hrep.lt a haS
      have aa := atI_nat (range_get (g := fun x => V.ref (g x)) han)
      -- for other in near[one]
      refine ⟨.ref nr, rfl, .int (a : Int), rfl, nr, _, (a : Int), .ref (g a), rfl, rfl, .inl (.inl (e _ _ g1)), aa, g a, rfl, ⟨_, ((g2 a han).2.ex e).seq⟩, ?_⟩
      refine for_list (xs := vN (f a)) (fun j σ H' => ∃ (x4 x5 x6 x7 x8 x9 : Option V), σ = [some (.ref nr), some (.ref hd), some (.ref rs), some (.int (a : Int)), x4, x5, x6, x7, x8, x9] ∧ Ex H H' ∧ ∀ b ∈ (f a).take j, El 2 (contr A0 a b) (rem S b)) ?_ ?_ ?_ ?_
      · exact ⟨_, _, _, _, _, _, rfl, e, fun b hb => by simp at hb⟩
      · rintro j σ H2 _ ⟨x4, x5, x6, x7, x8, x9, rfl, e2, _⟩
        exact ((g2 a han).2.ex e2).seq
      · rintro j x σ H2 hj ⟨x4, x5, x6, x7, x8, x9, rfl, e2, hno2⟩
        have hjl : j < (f a).length := by have := (List.getElem?_eq_some_iff.1 hj).1; rwa [vN_len] at this
        obtain ⟨b, hb⟩ : ∃ b, (f a)[j]? = some b := ⟨_, List.getElem?_eq_getElem hjl⟩
        rw [vN_get hb] at hj
        cases hj
        have hbf := List.mem_of_getElem? hb
        have hbS := (hrep.mem haS).1 hbf
        have hbn : b < n := hrep.lt b hbS.1
        have hab : a ≠ b := fun z => by
          have := hbS.2
          rw [z, hrep.irr] at this; cases this
        have htake := take_snoc hb
        have hS1 := length_rem hrep.up.nodup hbS.1
        -- fresh = drawn_together(near, one, other)
        refine ⟨.ref nr, rfl, .int (a : Int), rfl, .int (b : Int), rfl, nr, n, a, b, f, rfl, hnr.ex e2, hn, han, hbn, hrep.fup, hrep.flt, fun fr H3 φ nfr e3 hfr hD => ?_⟩
        have hrepD := hrep.draw haS hbS.1 hab hD
        -- steps, left = fold_away(fresh, less(rest, [other]))
        refine ⟨.ref fr, rfl, .ref rs, rfl, .int (b : Int), rfl, sz (by show 1 ≤ 100000; omega), fun o no => ?_⟩
        have e4 : Ex H3 (upd H3 o (.lst [.int (b : Int)])) := Evl.Ex.new no
        refine ⟨rs, o, S, [b], rfl, hrs.ex ((e2.trans e3).trans e4), upd_same, by omega, fun lr H4 nlr e5 hlr => ?_⟩
        rw [lessL_one] at hlr
        have e45 := e4.trans e5
        have lrf : fr ≠ lr := by
          obtain ⟨gf, k1, _⟩ := hfr
          exact ne_of_none k1 (Evl.fresh_back e4 nlr)
        refine ⟨fr, lr, n, φ, rem S b, contr A0 a b, rfl, hfr.ex e45, hlr, lrf, hn, hrepD, fun t st r H5 f' S' A' m nt nst hb5 ht hm hst hr hold hf' hF hfull => ?_⟩
        have fr0 : H2 fr = none := nfr
        have e24 : Ex H2 H4 := e3.trans e45
        have e25 : Ex H2 H5 := But.new e24 hb5 fr0
        refine ⟨t, _, rfl, .inl (.inl ht), rfl, .ref st, _, rfl, .ref r, [], rfl, rfl, ?_⟩
        have hrl : S'.length ≤ (rem S b).length := nodup_sub_length hF.rep.up.nodup hF.sub
        -- if len(left) > 0
        refine ⟨.ref r, rfl, r, vN S', rfl, .inl hr.seq, ((vN S').length : Int), 0, rfl, rfl, _, rfl, ite2 (fun c => ?_) (fun c => ?_)⟩
        · have hne : S' ≠ [] := fun z => by
            rw [z] at c
            exact absurd c (by decide)
          have hhd5 : LL H5 hd n h := hhd.ex (e2.trans e25)
          obtain ⟨gh', ghk1, ghk2⟩ := id hhd5
          have hxl' : ((List.range n).map fun x => V.ref (gh' x)).length = n := by simp
          -- sets = [list(part) for part in held]
          refine seq_of (asg_of ?_)
          refine lc_lists (K := K) (xs := (List.range n).map fun x => V.ref (gh' x)) h (Evl.ev_var rfl) (.inl (.inl ghk1)) (by omega) (fun _ => rfl) (fun i x H6 e6 hi Q' k => ?_) (fun se H6 nse e6 hse => ?_)
          · have hil : i < n := by have := (List.getElem?_eq_some_iff.1 hi).1; simpa using this
            rw [range_get hil] at hi
            cases hi
            exact ⟨.ref (gh' i), rfl, gh' i, vN (h i), rfl, .inl ((ghk2 i hil).2.ex e6).seq, fun l nl => k l _ nl (Evl.Ex.new nl) upd_same⟩
          · rw [hxl'] at hse
            obtain ⟨gs, s1, s2⟩ := id hse
            have sa := hH.size han
            have sb := hH.size hbn
            have fse : fr ≠ se := by
              obtain ⟨gf, k1, _⟩ := hf'
              exact ne_of_none k1 nse
            -- sets[one] = joint(sets[one], sets[other])
            refine ⟨.ref se, rfl, .int (a : Int), rfl, se, _, (a : Int), .ref (gs a), rfl, rfl, .inl (.inl s1), atI_nat (range_get han), .ref se, rfl, .int (b : Int), rfl, se, _, (b : Int), .ref (gs b), rfl, rfl, .inl (.inl s1), atI_nat (range_get hbn),
              gs a, gs b, h a, h b, rfl, (s2 a han).2, (s2 b hbn).2, by omega, by omega, (hH a han).1, (hH b hbn).1, fun p H7 jr np e7 hp hJ => ?_⟩
            have pse : p ≠ se := fun z => by rw [z, s1] at np; cases np
            refine ⟨.ref se, rfl, .int (a : Int), rfl, se, _, (a : Int), a, rfl, rfl, e7 _ _ s1, Evl.ixN_nat (by simpa using han), ?_⟩
            have hLs := LL.put (e7 _ _ s1) (fun x hx => ⟨(s2 x hx).1, (s2 x hx).2.ex e7⟩) han pse hp
            have hHs := hH.put (x := a) (hH a han).2 (hH b hbn).2 hJ
            generalize hH8 : upd H7 se (.lst (((List.range n).map fun x => V.ref (gs x)).set a (.ref p))) = H8 at hLs ⊢
            have e58 : Ex H5 H8 := by
              rw [← hH8]
              exact Evl.Ex.mut (e6.trans e7) nse
            have st5 : ∃ xs, H5 st = some (.lst xs) := by
              obtain ⟨ga, gb, gc, gd, ge, _⟩ := hst
              exact ⟨_, ge⟩
            obtain ⟨sx, st5⟩ := st5
            have stse : st ≠ se := ne_of_none st5 nse
            -- take_up(sets, steps)
            refine ⟨.ref se, rfl, .ref st, rfl, H4, se, st, n, m, _, rfl, hLs, hHs, hn, (hst.new nse).ex e58, hm, stse, fun H9 h' hb9 hL9 hH9 => ?_⟩
            have e59 : Ex H5 H9 := fun b' o z => hb9 b' o (ne_of_none z nse) (e58 _ _ z)
            -- return (fresh, sets, left)
            refine ⟨.ref fr, rfl, .ref se, rfl, .ref r, rfl, sz (by show 3 ≤ 100000; omega), fun tp ntp => ?_⟩
            have e0 : Ex H H9 := (e2.trans e25).trans e59
            have e9 : Ex H9 (upd H9 tp (.tup [.ref fr, .ref se, .ref r])) := Evl.Ex.new ntp
            exact q tp fr se r _ f' h' S' A' (Evl.fresh_back e0 ntp) (e0.trans e9) upd_same ((hf'.ex e59).ex e9) (hL9.ex e9) fse hH9 ((hr.ex e59).ex e9) ⟨hF.rep, fun v hv => by have := hfull v hv; omega⟩ hne (by omega)
        · have hnil : S' = [] := by
            cases hz : S' with
            | nil => rfl
            | cons v r =>
              rw [hz] at c
              exact absurd (decide_eq_true (by rw [vN_len]; simp)) c
          refine ⟨_, _, _, _, _, _, rfl, e2.trans e25, fun z hz => ?_⟩
          rw [htake, List.mem_append, List.mem_singleton] at hz
          rcases hz with hz | hz
          · exact hno2 z hz
          · rw [hz]
            exact (hF.stop hfull).1 hnil
      · rintro σ H2 ⟨x4, x5, x6, x7, x8, x9, rfl, e2, hno2⟩
        rw [vN_len, List.take_length] at hno2
        refine ⟨_, _, _, _, _, _, _, rfl, e2, fun z hz => ?_⟩
        rw [take_snoc ha, List.mem_append, List.mem_singleton] at hz
        rcases hz with hz | hz
        · exact hno z hz
        · rw [hz]; exact hno2
    · rintro σ H' ⟨x3, x4, x5, x6, x7, x8, x9, rfl, e, hno⟩
      rw [vN_len, List.take_length] at hno
      obtain ⟨a, b, ha, hb, hE⟩ := hR.more h5
      exact absurd (hno a ha b hb) hE
end
end Bw
/-! ### D_four -/
namespace Bw
open PySem PySem.Spec PyProof.Rows L2
section
variable {P : Program} {w : World} {K : PySem.W.Frag} {mg : Str → Option Value} {base : Heap}
def sp_four : Sp := fun vs H Q _ => ∃ (a : Addr) (n : Nat) (ties : Ties), vs = [.ref a] ∧ WebAt H a n ties ∧ n ≤ 7 ∧ TOk n ties ∧
  ∀ v H', Ex H H' → ((v = .non ∧ El 2 (adjT ties) (List.range n)) ∨ (∃ p, v = .ref p) ∧ ¬ El 2 (adjT ties) (List.range n)) → Q v H'
theorem ok_four (L_four : Df K mg "four" s_four P_four) (L_around : Df K mg "around" s_around P_around) (L_one_fewer : Df K mg "one_fewer" s_one_fewer P_one_fewer) (L_drawn_together : Df K mg "drawn_together" s_drawn_together P_drawn_together) (L_fold_away : Df K mg "fold_away" s_fold_away P_fold_away) (L_take_up : Df K mg "take_up" s_take_up P_take_up)
    (L_joint : Df K mg "joint" s_joint P_joint) (L_less : Df K mg "less" s_less P_less) (B : Bi mg) : FnOk P w K mg base CX0 5 L_four.f L_four.fd P_four sp_four := by
  have G_around := ok_around (P := P) (w := w) (K := K) (base := base) L_around B
  have G_fold_away := ok_fold_away (P := P) (w := w) (K := K) (base := base) L_fold_away L_less L_joint B
  have G_take_up := ok_take_up (P := P) (w := w) (K := K) (base := base) L_take_up L_joint L_less B
  have G_one_fewer := ok_one_fewer (P := P) (w := w) (K := K) (base := base) L_one_fewer L_drawn_together L_fold_away L_take_up L_joint L_less B
  refine L_four.F.ok sc_four (fun vs H Q E h => ?_) (fun cdv A outer s H vs Q E hr h => ?_)
  · obtain ⟨a, n, ties, rfl, _⟩ := h
    rfl
  · obtain ⟨a, n, ties, rfl, hweb, hn, ok, q⟩ := h
    refine ⟨_, (pss_cons (ps_setLc (i := 1) (own := [("v", 5)]) (g := gName 5) (tt := tYes) rfl sc_four.nd rfl rfl (sw_true rfl rfl rfl (by decide +kernel)) (pi_range1 (by rfl) B.range_ (pa_cons (pe_ix (kIxT (K := K)) (pv 0) pe_int (fun _ _ => rfl)) pa_nil)) (blkOk_by (own := [("v", 5)]) (N := N_four) (sc := defScope s_four) (by decide +kernel)) (fun _ _ _ _ _ => pg_name (i := 5) sc_four.nd rfl (Or.inl rfl)) (fun _ _ _ _ _ => pts_nil) (fun _ _ _ _ _ => (pe_call G_around (hr.mono (by decide)) (by rfl) L_around.g L_around.F.kp L_around.b .nil pass0 (pa_cons (pv 0) (pa_cons (pv 5) pa_nil)))))
 (pss_cons (ps_set (i := 2) sc_four.nd rfl (Or.inr rfl) (pe_lc (own := [("v", 5)]) (g := gName 5) (tt := tYes) (by rfl) sc_four.nd (pi_range1 (by rfl) B.range_ (pa_cons (pe_ix (kIxT (K := K)) (pv 0) pe_int (fun _ _ => rfl)) pa_nil)) (blkOk_by (own := [("v", 5)]) (N := N_four) (sc := defScope s_four) (by decide +kernel)) (fun _ _ _ _ _ => pg_name (i := 5) sc_four.nd rfl (Or.inl rfl)) (fun _ _ _ _ _ => pts_nil) (fun _ _ _ _ _ => (pe_lst (pa_cons (pv 5) pa_nil)))))
 (pss_cons (ps_asg (pe_call G_fold_away (hr.mono (by decide)) (by rfl) L_fold_away.g L_fold_away.F.kp L_fold_away.b .nil pass0 (pa_cons (pv 1) (pa_cons (pe_listRg rfl (by rfl) B.list_ (prg_1 (by rfl) B.range_ (pe_ix (kIxT (K := K)) (pv 0) pe_int (fun _ _ => rfl)))) pa_nil))) (pg_tup rfl (pgs_cons (pg_name (i := 3) sc_four.nd rfl (Or.inl rfl)) (pgs_cons (pg_name (i := 4) sc_four.nd rfl (Or.inl rfl)) pgs_nil))))
 (pss_cons (ps_expr (pe_call G_take_up (hr.mono (by decide)) (by rfl) L_take_up.g L_take_up.F.kp L_take_up.b .nil pass0 (pa_cons (pv 2) (pa_cons (pv 3) pa_nil))))
 (pss_cons (ps_while PassesOwn.never (pt_cmpR op_gt (pe_callB (kLen (K := K)) (by rfl) B.len_ PySem.boot_len (pa_cons (pv 4) pa_nil)) pe_int (nomark _)) (pss_one (ps_asg (pe_call G_one_fewer (hr.mono (by decide)) (by rfl) L_one_fewer.g L_one_fewer.F.kp L_one_fewer.b .nil pass0 (pa_cons (pv 1) (pa_cons (pv 2) (pa_cons (pv 4) pa_nil)))) (pg_tup rfl (pgs_cons (pg_name (i := 1) sc_four.nd rfl (Or.inl rfl)) (pgs_cons (pg_name (i := 2) sc_four.nd rfl (Or.inr rfl)) (pgs_cons (pg_name (i := 4) sc_four.nd rfl (Or.inl rfl)) pgs_nil)))))))
 (pss_cons (ps_if (pt_cmpR op_eq (pe_callB (kLen (K := K)) (by rfl) B.len_ PySem.boot_len (pa_cons (pv 4) pa_nil)) pe_int (nomark _)) (pss_one (ps_ret pe_non)) pss_nil)
 (pss_one (ps_ret (pe_lc (own := [("v", 5)]) (g := gName 5) (tt := tYes) (by rfl) sc_four.nd (pi_list (pv 4)) (blkOk_by (own := [("v", 5)]) (N := N_four) (sc := defScope s_four) (by decide +kernel)) (fun _ _ _ _ _ => pg_name (i := 5) sc_four.nd rfl (Or.inl rfl)) (fun _ _ _ _ _ => pts_nil) (fun _ _ _ _ _ => (pe_ix (kIxL (K := K)) (pv 2) (pv 5) (fun _ _ => rfl)))))))))))), ?_⟩
    obtain ⟨tl, hw, htl⟩ := id hweb
    have i0 : atI [V.int (n : Int), V.ref tl] 0 = some (.int (n : Int)) := atI_nat (j := 0) rfl
    have web0 : ∀ {H1 : Hp}, Ex H H1 → SqT K H1 a [V.int (n : Int), V.ref tl] := fun e => .inl (.inl (e _ _ hw))
    -- near = [around(web, v) for v in range(web[0])]
    refine seq_of (asg_of ?_)
    refine lcr_lists (n := n) (fun v => (List.range n).filter (adjT ties v)) (Evl.ea_cons (Evl.ev_op (Evl.ev_var rfl) Evl.ev_c (Evl.rv_ixT (K := K) (web0 (Evl.Ex.refl H)) i0)) Evl.ea_nil) (by omega) (fun _ => rfl) (fun i H1 e1 hi Q' k => ?_) (fun nr H1 nnr e1 hnr => ?_)
    · exact ⟨.ref a, rfl, .int (i : Int), rfl, a, n, i, ties, rfl, hweb.ex e1, hn, ok, hi, fun p H2 np e2 hp => k p H2 np e2 hp⟩
    -- held = [[v] for v in range(web[0])]
    dsimp only
    refine nm_asg ?_
    refine lcr_lists (n := n) (fun v => [v]) (Evl.ea_cons (Evl.ev_op (Evl.ev_var rfl) Evl.ev_c (Evl.rv_ixT (K := K) (web0 e1) i0)) Evl.ea_nil) (by omega) (fun _ => rfl) (fun i H2 e2 hi Q' k => ?_) (fun hd H2 nhd e2 hhd => ?_)
    · refine ⟨.int (i : Int), rfl, sz (by show 1 ≤ 100000; omega), fun p np => ?_⟩
      exact k p _ np (Evl.Ex.new np) upd_same
    have hnr2 := hnr.ex e2
    have hdnr : hd ≠ nr := by
      obtain ⟨g, h1, _⟩ := hnr
      exact Ne.symm (ne_of_none h1 nhd)
    have hH0 : Held n (fun v => [v]) := fun x hx => ⟨by simp, fun y hy => by rw [List.mem_singleton] at hy; omega⟩
    -- steps, rest = fold_away(near, list(range(web[0])))
    refine ⟨.ref nr, rfl, .ref a, rfl, a, _, 0, _, rfl, rfl, web0 (e1.trans e2), i0, (n : Int), rfl, RgOk.of_le (by omega) (by omega) (by omega) (by omega), fun rg nrg => ?_⟩
    rw [rgV_vN]
    have e3 : Ex H2 (upd H2 rg (.lst (vN (List.range n)))) := Evl.Ex.new nrg
    have hrg : LN (upd H2 rg (.lst (vN (List.range n)))) rg (List.range n) := upd_same
    generalize hH3 : upd H2 rg (.lst (vN (List.range n))) = H3 at e3 hrg ⊢
    have nrne : nr ≠ rg := by
      obtain ⟨g, h1, _⟩ := hnr2
      exact ne_of_none h1 nrg
    have hdrg : rg ≠ hd := by
      obtain ⟨g, h1, _⟩ := hhd
      exact Ne.symm (ne_of_none h1 nrg)
    have hnr3 := hnr2.ex e3
    have hhd3 := hhd.ex e3
    have hd3 : ∃ xs, H3 hd = some (.lst xs) := by
      obtain ⟨g, h1, _⟩ := hhd3
      exact ⟨_, h1⟩
    obtain ⟨hdx, hd3⟩ := hd3
    refine ⟨nr, rg, n, _, List.range n, adjT ties, rfl, hnr3, hrg, nrne, hn, rep_web ok, fun t st r H4 f' S' A' m nt nst hb ht hm hst hr hold hf' hF hfull => ?_⟩
    have e14 : Ex H H4 := But.new ((e1.trans e2).trans e3) hb nnr
    refine ⟨t, _, rfl, .inl (.inl ht), rfl, .ref st, _, rfl, .ref r, [], rfl, rfl, ?_⟩
    have hhd4 : LL H4 hd n (fun v => [v]) := hhd3.but hnr3 hdnr hb
    have hd4 : H4 hd = some (.lst hdx) := hb _ _ hdnr hd3
    have sthd : st ≠ hd := Ne.symm (ne_of_none hd3 nst)
    have rhd : r ≠ hd := by
      rcases hold with z | z
      · rw [z]; exact hdrg
      · exact Ne.symm (ne_of_none hd3 z)
    -- take_up(held, steps)
    refine ⟨.ref hd, rfl, .ref st, rfl, H3, hd, st, n, m, _, rfl, hhd4, hH0, hn, hst.by fun i hi => Ne.symm (ne_of_none hd3 hi), hm, sthd, fun H5 h' hb5 hL5 hH5 => ?_⟩
    have hd0 : H hd = none := Evl.fresh_back e1 nhd
    have e15 : Ex H H5 := But.new e14 hb5 hd0
    have hf5 : LL H5 nr n f' := hf'.but hhd4 (Ne.symm hdnr) hb5
    have hr5 : LN H5 r S' := hb5 _ _ rhd hr
    have hiff : S' = [] ↔ El 2 (adjT ties) (List.range n) := hF.stop hfull
    -- while len(rest) > 4
    refine ⟨fun m σ H' => ∃ (nr hd rs : Addr) (x3 x5 : Option V) (f h : Nat → List Nat) (S : List Nat) (A : Adj), σ = [some (.ref a), some (.ref nr), some (.ref hd), x3, some (.ref rs), x5] ∧ Ex H H' ∧ LL H' nr n f ∧ LL H' hd n h ∧ Held n h ∧ LN H' rs S ∧ Rest n f S A ∧
      (S = [] ↔ El 2 (adjT ties) (List.range n)) ∧ m = S.length,
      ⟨S'.length, nr, hd, r, _, _, f', h', S', A', rfl, e15, hf5, hL5, hH5, hr5, ⟨hF.rep, fun v hv => by have := hfull v hv; omega⟩, hiff, rfl⟩, ?_⟩
    rintro m' σ H6 ⟨nr6, hd6, rs6, x3, x5, f6, h6, S6, A6, rfl, e6, hf6, hL6, hH6, hr6, hR6, hi6, rfl⟩
    have hS6n : S6.length ≤ n := hR6.rep.up.le_of hR6.rep.lt
    refine ⟨.ref rs6, rfl, rs6, vN S6, rfl, .inl hr6.seq, ((vN S6).length : Int), 4, rfl, rfl, _, rfl, ite2 (fun c => ?_) (fun c => ?_)⟩
    · have h5 : 5 ≤ S6.length := by
        have := of_decide_eq_true c
        rw [vN_len] at this
        omega
      have hne6 : S6 ≠ [] := fun z => by rw [z] at h5; simp at h5
      refine ⟨fun σ' H' => ∃ (nr hd rs : Addr) (x3 x5 : Option V) (f h : Nat → List Nat) (S : List Nat) (A : Adj), σ' = [some (.ref a), some (.ref nr), some (.ref hd), x3, some (.ref rs), x5] ∧ Ex H H' ∧ LL H' nr n f ∧ LL H' hd n h ∧ Held n h ∧ LN H' rs S ∧ Rest n f S A ∧
        (S = [] ↔ El 2 (adjT ties) (List.range n)) ∧ S.length < S6.length, ?_, ?_⟩
      · rintro σ' H' ⟨nr, hd, rs, x3, x5, f, h, S, A, a1, a2, a3, a4, a5, a6, a7, a8, a9⟩
        exact ⟨S.length, a9, nr, hd, rs, x3, x5, f, h, S, A, a1, a2, a3, a4, a5, a6, a7, a8, rfl⟩
      -- near, held, rest = one_fewer(near, held, rest)
      refine ⟨.ref nr6, rfl, .ref hd6, rfl, .ref rs6, rfl, nr6, hd6, rs6, n, f6, h6, S6, A6, rfl, hf6, hL6, hH6, hr6, hR6, h5, hn, fun t7 fr se lf H7 f7 h7 S7 A7 nt7 e7 ht7 hf7 hL7 _ hH7 hlf hR7 hne7 hlt7 => ?_⟩
      refine ⟨t7, _, rfl, .inl (.inl ht7), rfl, .ref fr, _, rfl, .ref se, _, rfl, .ref lf, [], rfl, rfl, ?_⟩
      refine ⟨fr, se, lf, _, _, f7, h7, S7, A7, rfl, e6.trans e7, hf7, hL7, hH7, hlf, hR7, ⟨fun z => absurd z hne7, fun z => absurd (hi6.2 z) hne6⟩, hlt7⟩
    · -- if len(rest) == 0
      refine ⟨.ref rs6, rfl, rs6, vN S6, rfl, .inl hr6.seq, rfl, _, rfl, ite2 (fun c2 => ?_) (fun c2 => ?_)⟩
      · have hnil : S6 = [] := by
          have := V.int.inj (of_decide_eq_true c2)
          rw [vN_len] at this
          exact List.length_eq_zero_iff.1 (by omega)
        exact q .non H6 e6 (.inl ⟨rfl, hi6.1 hnil⟩)
      · have hne : S6 ≠ [] := fun z => by
          rw [z] at c2
          exact c2 (decide_eq_true rfl)
        obtain ⟨gh, k1, k2⟩ := id hL6
        -- return [held[v] for v in rest]
        have hlc := Evl.el_lcL (K := K) (σ := [some (.ref a), some (.ref nr6), some (.ref hd6), x3, some (.ref rs6), x5]) (H := H6) (t := tYes) (te := tOp (rIxL K) (tVar 2) (tVar 5)) (tl := tVar 4) (j := 5) (vs := [5]) (xs := vN S6) (fun _ => true) (fun i => V.ref (gh (S6.getD i 0))) (Evl.ev_var rfl) hr6.seq (by rw [vN_len]; omega) (fun _ => rfl)
          (fun i x H1 e hi => fun H2 _ Q' k => k H2 (Evl.Ex.refl H2)) (fun i x H1 e hi _ => by
            have hil : i < S6.length := by have := (List.getElem?_eq_some_iff.1 hi).1; rwa [vN_len] at this
            have e1 := vN_get (List.getElem?_eq_getElem hil)
            rw [hi] at e1
            cases e1
            have e2 : S6.getD i 0 = S6[i] := by rw [List.getD_eq_getElem?_getD, List.getElem?_eq_getElem hil]; rfl
            rw [e2]
            exact Evl.ev_op (Evl.ev_var rfl) (Evl.ev_var rfl) (Evl.rv_ixL (K := K) (.inl (.inl (e _ _ k1))) (atI_nat (range_get (hR6.rep.lt _ (List.getElem_mem hil))))))
        exact Evl.s_retL hlc (fun p H7 np e7 _ => q (.ref p) H7 (e6.trans e7) (.inr ⟨⟨p, rfl⟩, fun z => hne (hi6.2 z)⟩))
end
end Bw
/-! ### D_members_of -/
namespace Bw
open PySem PySem.Spec PyProof.Rows L2
section
variable {P : Program} {w : World} {K : PySem.W.Frag} {mg : Str → Option Value} {base : Heap}
def sp_members_of : Sp := fun vs H Q _ => ∃ (n m : Nat), vs = [.int (n : Int), .int (m : Int)] ∧ n ≤ 1000 ∧ ∀ p H', H p = none → Ex H H' → LN H' p ((List.range n).filter (bits m)) → Q (.ref p) H'
theorem ok_members_of (L_members_of : Df K mg "members_of" s_members_of P_members_of) (B : Bi mg) : FnOk P w K mg base CX0 1 L_members_of.f L_members_of.fd P_members_of sp_members_of := by
  refine L_members_of.F.ok sc_members_of (fun vs H Q E h => ?_) (fun cdv A outer s H vs Q E hr h => ?_)
  · obtain ⟨n, m, rfl, _⟩ := h
    rfl
  · obtain ⟨n, m, rfl, hn, q⟩ := h
    refine ⟨_, (pss_one (ps_ret (pe_lc (own := [("v", 2)]) (g := gName 2) (by rfl) sc_members_of.nd (pi_range1 (by rfl) B.range_ (pa_cons (pv 0) pa_nil)) (blkOk_by (own := [("v", 2)]) (N := N_members_of) (sc := defScope s_members_of) (by decide +kernel)) (fun _ _ _ _ _ => pg_name (i := 2) sc_members_of.nd rfl (Or.inl rfl)) (fun _ _ _ _ _ => (pts_one (pt_cmpR op_eq (pe_op op_and (pe_op op_shr (pv 1) (pv 2)) pe_int) pe_int (nomark _)))) (fun _ _ _ _ _ => (pv 2))))), ?_⟩
    refine Evl.s_retL (xs := vN ((List.range n).filter (bits m))) ?_ (fun p H1 np e h1 => q p H1 np e h1)
    have k := Evl.el_lcR1 (σ := [some (.int (n : Int)), some (.int (m : Int)), none]) (H := H) (ta := tCons (tVar 0) tNil) (t := tTest (tOp rEq (tOp (rI0 fun i j => V.int (Builtin.bitAnd i j)) (tOp (rI (fun _ j => 0 ≤ j) fun i j => V.int (i / 2 ^ j.toNat)) (tVar 1) (tVar 2)) (tC (.int 1))) (tC (.int 1)))) (te := tVar 2) (j := 2) (vs := [2])
      (bits m) (fun i => V.int (i : Int)) (Evl.ea_cons (Evl.ev_var rfl) Evl.ea_nil) (by omega) (fun _ => rfl) (fun i H1 e hi => ?_) (fun i H1 e hi _ => Evl.ev_var rfl)
    · rw [Int.toNat_natCast] at k
      exact k
    · have g := Evl.et_test (Evl.ev_op (σ := (wipe [some (.int (n : Int)), some (.int (m : Int)), none] [2]).set 2 (some (.int (i : Int)))) (H := H1) (Evl.ev_op (Evl.ev_op (ta := tVar 1) (tb := tVar 2) (Evl.ev_var rfl) (Evl.ev_var rfl) (Evl.rv_I (C := fun _ j => 0 ≤ j) (g := fun i j => V.int (i / 2 ^ j.toNat)) (i := (m : Int)) (j := (i : Int)) (by omega))) (Evl.ev_c (v := .int 1)) (Evl.rv_I0 (g := fun i j => V.int (Builtin.bitAnd i j)))) (Evl.ev_c (v := .int 1)) (Evl.rv_eq rfl))
      refine Evl.et_is g ?_
      exact bitTest m i
end
end Bw
/-! ### D_sizes_of -/
namespace Bw
open PySem PySem.Spec PyProof.Rows L2
section
variable {P : Program} {w : World} {K : PySem.W.Frag} {mg : Str → Option Value} {base : Heap}
def sp_sizes_of : Sp := fun vs H Q _ => ∃ (n : Nat), vs = [.int (n : Int)] ∧ n ≤ 7 ∧ ∀ p H' L, H p = none → Ex H H' → LN H' p L → SizeOk n L → Q (.ref p) H'
theorem ok_sizes_of (L_sizes_of : Df K mg "sizes_of" s_sizes_of P_sizes_of) (B : Bi mg) : FnOk P w K mg base CX0 1 L_sizes_of.f L_sizes_of.fd P_sizes_of sp_sizes_of := by
  refine L_sizes_of.F.ok sc_sizes_of (fun vs H Q E h => ?_) (fun cdv A outer s H vs Q E hr h => ?_)
  · obtain ⟨n, rfl, _⟩ := h
    rfl
  · obtain ⟨n, rfl, hn, q⟩ := h
    refine ⟨_, (pss_cons (ps_set (i := 1) sc_sizes_of.nd rfl (Or.inl rfl) (pe_lst (pa_cons pe_int pa_nil)))
 (pss_cons (ps_for PassesOwn.never rfl (pi_range1 (by rfl) B.range_ (pa_cons (pv 0) pa_nil)) (pg_name (i := 2) sc_sizes_of.nd rfl (Or.inl rfl)) (pss_one (ps_set (i := 1) sc_sizes_of.nd rfl (Or.inl rfl) (pe_op op_cat (pv 1) (pe_lc (own := [("size", 3)]) (g := gName 3) (tt := tYes) (by rfl) sc_sizes_of.nd (pi_list (pv 1)) (blkOk_by (own := [("size", 3)]) (N := N_sizes_of) (sc := defScope s_sizes_of) (by decide +kernel)) (fun _ _ _ _ _ => pg_name (i := 3) sc_sizes_of.nd rfl (Or.inl rfl)) (fun _ _ _ _ _ => pts_nil) (fun _ _ _ _ _ => (pe_op op_add (pv 3) pe_int)))))))
 (pss_one (ps_ret (pv 1))))), ?_⟩
    refine ⟨sz (by show 1 ≤ 100000; omega), fun o no => ?_⟩
    have e1 : Ex H (upd H o (.lst [.int 0])) := Evl.Ex.new no
    refine ⟨.int (n : Int), rfl, (n : Int), rfl, by omega, by omega, ?_⟩
    rw [Int.toNat_natCast]
    refine for_range (lo := 0) (n := n) (fun i σ H' => ∃ (x2 x3 : Option V) (sp : Addr) (L : List Nat), σ = [some (.int (n : Int)), some (.ref sp), x2, x3] ∧ Ex H H' ∧ H sp = none ∧ LN H' sp L ∧ SizeOk i L) ?_ ?_ ?_
    · exact ⟨none, none, o, [0], rfl, e1, no, upd_same, SizeOk.zero⟩
    · rintro i σ H' hi ⟨x2, x3, sp, L, rfl, e, nsp, hL, hS⟩
      have hl : L.length ≤ 128 := by rw [hS.1]; exact pow7 (Nat.le_of_lt hi) hn
      have hm := el_map (K := K) (σ := [some (.int (n : Int)), some (.ref sp), some (.int (0 + (i : Int))), x3]) (H := H') (te := tOp (rI0 fun i j => V.int (i + j)) (tVar 3) (tC (.int 1))) (tl := tVar 1) (j := 3) (vs := [3]) (fun t => t + 1) (Evl.ev_var rfl) hL.seq (by omega) (fun _ => rfl) (fun x H1 e2 hx => Evl.ev_op (Evl.ev_var rfl) Evl.ev_c (Evl.rv_I0 (g := fun i j => V.int (i + j)) (i := (x : Int)) (j := 1)))
      refine ⟨.ref sp, rfl, ?_⟩
      refine hm H' (Evl.Ex.refl H') _ fun p H1 np e2 hp => ?_
      refine ⟨sp, p, vN L, vN (L.map fun t => t + 1), rfl, rfl, e2 _ _ hL, hp, sz (by rw [vN_len, vN_len, List.length_map]; omega), fun p2 np2 => ?_⟩
      refine ⟨_, _, p2, _, rfl, (e.trans e2).trans (Evl.Ex.new np2), Evl.fresh_back (e.trans e2) np2, ?_, hS.step⟩
      unfold LN
      rw [upd_same, vN_app]
    · rintro σ H' ⟨x2, x3, sp, L, rfl, e, nsp, hL, hS⟩
      exact ⟨.ref sp, rfl, q sp H' L nsp e hL hS⟩
end
end Bw
/-! ### D_arounds_of -/
namespace Bw
open PySem PySem.Spec PyProof.Rows L2
section
variable {P : Program} {w : World} {K : PySem.W.Frag} {mg : Str → Option Value} {base : Heap}
/-- numbers by places, as a list -/
def NA (H : Hp) (a : Addr) (n : Nat) (N : Nat → Nat) : Prop := H a = some (.lst ((List.range n).map fun x => V.int (N x : Int)))
def sp_arounds_of : Sp := fun vs H Q _ => ∃ (a : Addr) (n : Nat) (ties : Ties), vs = [.ref a] ∧ WebAt H a n ties ∧ n ≤ 7 ∧ TOk n ties ∧ ∀ p H' L, H p = none → Ex H H' → LN H' p L → TabK (adjT ties) n L → Q (.ref p) H'
theorem ok_arounds_of (L_arounds_of : Df K mg "arounds_of" s_arounds_of P_arounds_of) (B : Bi mg) : FnOk P w K mg base CX0 1 L_arounds_of.f L_arounds_of.fd P_arounds_of sp_arounds_of := by
  refine L_arounds_of.F.ok sc_arounds_of (fun vs H Q E h => ?_) (fun cdv A outer s H vs Q E hr h => ?_)
  · obtain ⟨a, n, ties, rfl, _⟩ := h
    rfl
  · obtain ⟨a, n, ties, rfl, hweb, hn, ok, q⟩ := h
    refine ⟨_, (pss_cons (ps_set (i := 1) sc_arounds_of.nd rfl (Or.inr rfl) (pe_lc (own := [("v", 5)]) (g := gName 5) (tt := tYes) (by rfl) sc_arounds_of.nd (pi_range1 (by rfl) B.range_ (pa_cons (pe_ix (kIxT (K := K)) (pv 0) pe_int (fun _ _ => rfl)) pa_nil)) (blkOk_by (own := [("v", 5)]) (N := N_arounds_of) (sc := defScope s_arounds_of) (by decide +kernel)) (fun _ _ _ _ _ => pg_name (i := 5) sc_arounds_of.nd rfl (Or.inl rfl)) (fun _ _ _ _ _ => pts_nil) (fun _ _ _ _ _ => pe_int)))
 (pss_cons (ps_for PassesOwn.never rfl (pi_list (pe_ix (kIxT (K := K)) (pv 0) pe_int (fun _ _ => rfl))) (pg_tup rfl (pgs_cons (pg_name (i := 2) sc_arounds_of.nd rfl (Or.inl rfl)) (pgs_cons (pg_name (i := 3) sc_arounds_of.nd rfl (Or.inl rfl)) pgs_nil))) (pss_cons (ps_asg (pe_op op_add (pe_ix (kIxL (K := K)) (pv 1) (pv 2) (fun _ _ => rfl)) (pe_op op_shl pe_int (pv 3))) (pg_sub (pv 1) (pv 2) set_list))
 (pss_one (ps_asg (pe_op op_add (pe_ix (kIxL (K := K)) (pv 1) (pv 3) (fun _ _ => rfl)) (pe_op op_shl pe_int (pv 2))) (pg_sub (pv 1) (pv 3) set_list)))))
 (pss_cons (ps_set (i := 4) sc_arounds_of.nd rfl (Or.inl rfl) (pe_lst (pa_cons pe_int pa_nil)))
 (pss_cons (ps_for PassesOwn.never rfl (pi_range1 (by rfl) B.range_ (pa_cons (pe_ix (kIxT (K := K)) (pv 0) pe_int (fun _ _ => rfl)) pa_nil)) (pg_name (i := 5) sc_arounds_of.nd rfl (Or.inr rfl)) (pss_one (ps_set (i := 4) sc_arounds_of.nd rfl (Or.inl rfl) (pe_op op_cat (pv 4) (pe_lc (own := [("number", 6)]) (g := gName 6) (tt := tYes) (by rfl) sc_arounds_of.nd (pi_list (pv 4)) (blkOk_by (own := [("number", 6)]) (N := N_arounds_of) (sc := defScope s_arounds_of) (by decide +kernel)) (fun _ _ _ _ _ => pg_name (i := 6) sc_arounds_of.nd rfl (Or.inl rfl)) (fun _ _ _ _ _ => pts_nil) (fun _ _ _ _ _ => (pe_op op_or (pv 6) (pe_ix (kIxL (K := K)) (pv 1) (pv 5) (fun _ _ => rfl)))))))))
 (pss_one (ps_ret (pv 4))))))), ?_⟩
    obtain ⟨tl, hw, g, g1, g2⟩ := id hweb
    have i0 : atI [V.int (n : Int), V.ref tl] 0 = some (.int (n : Int)) := atI_nat (j := 0) rfl
    have i1 : atI [V.int (n : Int), V.ref tl] 1 = some (.ref tl) := atI_nat (j := 1) rfl
    have web0 : ∀ {H1 : Hp}, Ex H H1 → SqT K H1 a [V.int (n : Int), V.ref tl] := fun e => .inl (.inl (e _ _ hw))
    -- near = [0 for v in range(web[0])]
    have hz := Evl.el_lcR1 (σ := start N_arounds_of [.ref a]) (H := H) (ta := tCons (tOp (rIxT K) (tVar 0) (tC (.int 0))) tNil) (t := tYes) (te := tC (.int 0)) (j := 5) (vs := [5]) (n := (n : Int)) (fun _ => true) (fun i => V.int ((0 : Nat) : Int))
      (Evl.ea_cons (Evl.ev_op (Evl.ev_var rfl) Evl.ev_c (Evl.rv_ixT (K := K) (web0 (Evl.Ex.refl H)) i0)) Evl.ea_nil) (by omega) (fun _ => rfl) (fun i H1 e hi => fun H2 _ Q' k => k H2 (Evl.Ex.refl H2)) (fun i H1 e hi _ => Evl.ev_c)
    rw [Int.toNat_natCast, given_all] at hz
    refine seq_of (asg_of ?_)
    refine hz H (Evl.Ex.refl H) _ fun nr H1 nnr e1 hnr => ?_
    -- for a, b in web[1]
    refine ⟨.ref a, rfl, a, _, 1, _, rfl, rfl, web0 e1, i1, tl, rfl, ⟨_, .inl (.inl (e1 _ _ g1))⟩, ?_⟩
    refine for_list (xs := (List.range ties.length).map fun i => V.ref (g i)) (fun i σ H' => ∃ (x2 x3 x4 x5 x6 : Option V) (N : Nat → Nat), σ = [some (.ref a), some (.ref nr), x2, x3, x4, x5, x6] ∧ Ex H H' ∧ NA H' nr n N ∧ NearOk n (ties.take i) N) ?_ ?_ ?_ ?_
    · exact ⟨none, none, none, none, none, fun _ => 0, rfl, e1, hnr, NearOk.nil n⟩
    · rintro i σ H' _ ⟨x2, x3, x4, x5, x6, N, rfl, e, _⟩
      exact .inl (.inl (e _ _ g1))
    · rintro i x σ H' hi ⟨x2, x3, x4, x5, x6, N, rfl, e, hN, hO⟩
      have hil : i < ties.length := by have := (List.getElem?_eq_some_iff.1 hi).1; simpa using this
      rw [range_get hil] at hi
      cases hi
      obtain ⟨⟨t1, t2⟩, ht⟩ : ∃ p, ties[i] = p := ⟨_, rfl⟩
      have hget : ties[i]? = some (t1, t2) := by rw [List.getElem?_eq_getElem hil, ht]
      have htake := take_snoc hget
      have oki : TOk n (ties.take i ++ [(t1, t2)]) := by rw [← htake]; exact ok.take _
      have lt12 := ok.lt t1 t2 (List.mem_of_getElem? hget)
      have h1n : t1 < n := by omega
      have h2n : t2 < n := lt12.2
      refine ⟨g i, _, rfl, .inl (.inl (e _ _ (g2 i t1 t2 hget))), rfl, .int (t1 : Int), _, rfl, .int (t2 : Int), [], rfl, rfl, ?_⟩
      have one0 : ((1 : Int)).natAbs < 2 ^ 64 := by decide
      -- near[a] = near[a] + (1 << b)
      refine ⟨.ref nr, rfl, .int (t1 : Int), rfl, nr, _, (t1 : Int), .int (N t1 : Int), rfl, rfl, .inl (.inl hN), atI_nat (range_get h1n), .int (t2 : Int), rfl, 1, (t2 : Int), rfl, rfl, ⟨by omega, by omega, one0⟩, (N t1 : Int), _, rfl, rfl,
        .ref nr, rfl, .int (t1 : Int), rfl, nr, _, (t1 : Int), t1, rfl, rfl, hN, Evl.ixN_nat (by simpa using h1n), ?_⟩
      have hs1 : V.int ((N t1 : Int) + 1 * 2 ^ (t2 : Int).toNat) = V.int (((N t1 + 2 ^ t2 : Nat)) : Int) := by
        rw [shl1]
        rfl
      rw [range_set h1n]
      dsimp only
      rw [hs1]
      have hN1 : NA (upd H' nr (.lst ((List.range n).map fun z => if z = t1 then V.int ((N t1 + 2 ^ t2 : Nat) : Int) else V.int (N z : Int)))) nr n (fun z => if z = t1 then N t1 + 2 ^ t2 else N z) := by
        unfold NA
        rw [upd_same]
        congr 3
        funext z
        by_cases hz : z = t1
        · simp only [if_pos hz]
        · simp only [if_neg hz]
      have e2 := Evl.Ex.mut (o := .lst ((List.range n).map fun z => if z = t1 then V.int ((N t1 + 2 ^ t2 : Nat) : Int) else V.int (N z : Int))) e nnr
      generalize upd H' nr (.lst ((List.range n).map fun z => if z = t1 then V.int ((N t1 + 2 ^ t2 : Nat) : Int) else V.int (N z : Int))) = H2 at hN1 e2 ⊢
      have hne : ¬ t2 = t1 := by omega
      -- near[b] = near[b] + (1 << a)
      have hat : atI ((List.range n).map fun x => V.int (((fun z => if z = t1 then N t1 + 2 ^ t2 else N z) x : Nat) : Int)) (t2 : Int) = some (.int (N t2 : Int)) := by
        have := atI_nat (range_get (g := fun x => V.int (((fun z => if z = t1 then N t1 + 2 ^ t2 else N z) x : Nat) : Int)) h2n)
        simp only [if_neg hne] at this
        exact this
      refine ⟨.ref nr, rfl, .int (t2 : Int), rfl, nr, _, (t2 : Int), .int (N t2 : Int), rfl, rfl, .inl (.inl hN1), hat, .int (t1 : Int), rfl, 1, (t1 : Int), rfl, rfl, ⟨by omega, by omega, one0⟩, (N t2 : Int), _, rfl, rfl,
        .ref nr, rfl, .int (t2 : Int), rfl, nr, _, (t2 : Int), t2, rfl, rfl, hN1, Evl.ixN_nat (by simpa using h2n), ?_⟩
      have hs2 : V.int ((N t2 : Int) + 1 * 2 ^ (t1 : Int).toNat) = V.int (((N t2 + 2 ^ t1 : Nat)) : Int) := by
        rw [shl1]
        rfl
      rw [range_set h2n]
      dsimp only
      rw [hs2]
      refine ⟨_, _, _, _, _, fun x => if x = t2 then N t2 + 2 ^ t1 else if x = t1 then N t1 + 2 ^ t2 else N x, rfl, Evl.Ex.mut e2 nnr, ?_, ?_⟩
      · unfold NA
        rw [upd_same]
        congr 3
        funext z
        by_cases hz : z = t2
        · simp only [if_pos hz]
        · simp only [if_neg hz]
      · rw [htake]
        exact hO.step oki
    · rintro σ H' ⟨x2, x3, x4, x5, x6, N, rfl, e, hN, hO⟩
      have hO' : NearOk n ties N := by
        have : ((List.range ties.length).map fun i => V.ref (g i)).length = ties.length := by simp
        rw [this, List.take_length] at hO
        exact hO
      -- table = [0]
      refine ⟨sz (by show 1 ≤ 100000; omega), fun o no => ?_⟩
      have e2 : Ex H' (upd H' o (.lst [.int 0])) := Evl.Ex.new no
      -- for v in range(web[0])
      refine ⟨.ref a, rfl, a, _, 0, _, rfl, rfl, web0 (e.trans e2), i0, (n : Int), rfl, by omega, by omega, ?_⟩
      rw [Int.toNat_natCast]
      refine for_range (lo := 0) (n := n) (fun i σ H2 => ∃ (x5 x6 : Option V) (tp : Addr) (L : List Nat), σ = [some (.ref a), some (.ref nr), x2, x3, some (.ref tp), x5, x6] ∧ Ex H' H2 ∧ H' tp = none ∧ LN H2 tp L ∧ TabK (adjT ties) i L) ?_ ?_ ?_
      · exact ⟨x5, x6, o, [0], rfl, e2, no, upd_same, TabK.zero _⟩
      · rintro i σ H2 hi ⟨x5, x6, tp, L, rfl, e3, ntp, hL, hT⟩
        have hl : L.length ≤ 128 := by rw [hT.1]; exact pow7 (Nat.le_of_lt hi) hn
        have z0 : (0 : Int) + (i : Int) = (i : Int) := Int.zero_add _
        rw [z0]
        have hm := el_map (K := K) (σ := [some (.ref a), some (.ref nr), x2, x3, some (.ref tp), some (.int (i : Int)), x6]) (H := H2) (te := tOp (rI0 fun i j => V.int (Builtin.bitOr i j)) (tVar 6) (tOp (rIxL K) (tVar 1) (tVar 5))) (tl := tVar 4) (j := 6) (vs := [6]) (fun t => t ||| N i) (Evl.ev_var rfl) hL.seq (by omega) (fun _ => rfl)
          (fun x H3 e4 hx => by
            have := Evl.ev_op (σ := (wipe [some (.ref a), some (.ref nr), x2, x3, some (.ref tp), some (.int (i : Int)), x6] [6]).set 6 (some (.int (x : Int)))) (H := H3) (ta := tVar 6) (Evl.ev_var rfl) (Evl.ev_op (ta := tVar 1) (tb := tVar 5) (Evl.ev_var rfl) (Evl.ev_var rfl) (Evl.rv_ixL (K := K) (i := (i : Int)) (.inl (.inl (e4 _ _ (e3 _ _ hN)))) (atI_nat (range_get hi)))) (Evl.rv_I0 (g := fun i j => V.int (Builtin.bitOr i j)) (i := (x : Int)) (j := (N i : Int)))
            refine Evl.ev_is this ?_
            show V.int (Builtin.bitOr (x : Int) (N i : Int)) = _
            rw [orN])
        refine ⟨.ref tp, rfl, ?_⟩
        refine hm H2 (Evl.Ex.refl H2) _ fun p H3 np e4 hp => ?_
        refine ⟨tp, p, vN L, vN (L.map fun t => t ||| N i), rfl, rfl, e4 _ _ hL, hp, sz (by rw [vN_len, vN_len, List.length_map]; omega), fun p2 np2 => ?_⟩
        refine ⟨_, _, p2, _, rfl, (e3.trans e4).trans (Evl.Ex.new np2), Evl.fresh_back (e3.trans e4) np2, ?_, hT.step (hO' i hi)⟩
        unfold LN
        rw [upd_same, vN_app]
      · rintro σ H2 ⟨x5, x6, tp, L, rfl, e3, ntp, hL, hT⟩
        exact ⟨.ref tp, rfl, q tp H2 L (Evl.fresh_back e ntp) (e.trans e3) hL hT⟩
end
end Bw
/-! ### D_piece_from -/
namespace Bw
open PySem PySem.Spec PyProof.Rows L2
section
variable {P : Program} {w : World} {K : PySem.W.Frag} {mg : Str → Option Value} {base : Heap}
def sp_piece_from : Sp := fun vs H Q _ => ∃ (tb : Addr) (n m p v : Nat) (A : Adj) (L : List Nat), vs = [.ref tb, .int (m : Int), .int (p : Int)] ∧ LN H tb L ∧ TabK A n L ∧ n ≤ 7 ∧ m < 2 ^ n ∧ Grow A m v p ∧
  ∀ r H', Ex H H' → Piece A m v r → Q (.int ((r : Nat) : Int)) H'
theorem ok_piece_from (L_piece_from : Df K mg "piece_from" s_piece_from P_piece_from) (B : Bi mg) : FnOk P w K mg base CX0 1 L_piece_from.f L_piece_from.fd P_piece_from sp_piece_from := by
  refine L_piece_from.F.ok sc_piece_from (fun vs H Q E h => ?_) (fun cdv A outer s H vs Q E hr h => ?_)
  · obtain ⟨tb, n, m, p, v, A, L, rfl, _⟩ := h
    rfl
  · obtain ⟨tb, n, m, p0, v, A0, L, rfl, hL, hT, hn, hm, hG, q⟩ := h
    refine ⟨_, (pss_cons (ps_set (i := 3) sc_piece_from.nd rfl (Or.inl rfl) (pe_op op_or (pv 2) (pe_op op_and (pe_ix (kIxL (K := K)) (pv 0) (pv 2) (fun _ _ => rfl)) (pv 1))))
 (pss_cons (ps_while PassesOwn.never (pt_cmpR op_ne (pv 3) (pv 2) (nomark _)) (pss_cons (ps_set (i := 2) sc_piece_from.nd rfl (Or.inl rfl) (pv 3))
 (pss_one (ps_set (i := 3) sc_piece_from.nd rfl (Or.inl rfl) (pe_op op_or (pv 2) (pe_op op_and (pe_ix (kIxL (K := K)) (pv 0) (pv 2) (fun _ _ => rfl)) (pv 1)))))))
 (pss_one (ps_ret (pv 2))))), ?_⟩
    have get : ∀ p, p ≤ m → ∃ t, L[p]? = some t := fun p hp => ⟨_, List.getElem?_eq_getElem (by rw [hT.1]; omega)⟩
    obtain ⟨t0, ht0⟩ := get p0 (bits_le hG.sub)
    refine ⟨.int (p0 : Int), rfl, .ref tb, rfl, .int (p0 : Int), rfl, tb, _, (p0 : Int), .int (t0 : Int), rfl, rfl, hL.seq, atI_nat (vN_get ht0), .int (m : Int), rfl, (t0 : Int), (m : Int), rfl, rfl, (p0 : Int), _, rfl, rfl, ?_⟩
    rw [andN]
    dsimp only
    rw [orN]
    refine ⟨fun k σ H' => ∃ p t : Nat, σ = [some (.ref tb), some (.int (m : Int)), some (.int (p : Int)), some (.int ((p ||| (t &&& m) : Nat) : Int))] ∧ H' = H ∧ L[p]? = some t ∧ Grow A0 m v p ∧ k = m - p, ⟨m - p0, p0, t0, rfl, rfl, ht0, hG, rfl⟩, ?_⟩
    rintro k σ H' ⟨p, t, rfl, rfl, ht, hGp, rfl⟩
    have hbits := hT.2 p t ht
    obtain ⟨hG2, hle⟩ := hGp.turn hbits
    refine ⟨.int ((p ||| (t &&& m) : Nat) : Int), rfl, .int (p : Int), rfl, rfl, _, rfl, ite2 (fun c => ?_) (fun c => ?_)⟩
    · have hne : p ||| (t &&& m) ≠ p := fun e => by
        rw [e, decide_eq_true rfl] at c
        cases c
      have hlt : p ||| (t &&& m) ≤ m := bits_le hG2.sub
      obtain ⟨t', ht'⟩ := get _ hlt
      refine ⟨fun σ' H2 => ∃ p' t' : Nat, σ' = [some (.ref tb), some (.int (m : Int)), some (.int (p' : Int)), some (.int ((p' ||| (t' &&& m) : Nat) : Int))] ∧ H2 = H' ∧ L[p']? = some t' ∧ Grow A0 m v p' ∧ m - p' < m - p, ?_, ?_⟩
      · rintro σ' H2 ⟨p', t', a1, a2, a3, a4, a5⟩
        exact ⟨m - p', a5, p', t', a1, a2, a3, a4, rfl⟩
      · refine ⟨.int ((p ||| (t &&& m) : Nat) : Int), rfl, ?_⟩
        refine ⟨.int ((p ||| (t &&& m) : Nat) : Int), rfl, .ref tb, rfl, .int ((p ||| (t &&& m) : Nat) : Int), rfl, tb, _, ((p ||| (t &&& m) : Nat) : Int), .int (t' : Int), rfl, rfl, hL.seq, atI_nat (vN_get ht'), .int (m : Int), rfl, (t' : Int), (m : Int), rfl, rfl, ((p ||| (t &&& m) : Nat) : Int), _, rfl, rfl, ?_⟩
        rw [andN]
        dsimp only
        rw [orN]
        exact ⟨p ||| (t &&& m), t', rfl, rfl, ht', hG2, by omega⟩
    · have he : p ||| (t &&& m) = p := by
        cases h : decide (V.int ((p ||| (t &&& m) : Nat) : Int) = V.int (p : Int)) with
        | true => exact eqN h
        | false => rw [h] at c; exact absurd rfl c
      exact ⟨.int (p : Int), rfl, q p H' (Evl.Ex.refl H') (hGp.done hbits he)⟩
end
end Bw
/-! ### D_rim_of -/
namespace Bw
open PySem PySem.Spec PyProof.Rows L2
section
variable {P : Program} {w : World} {K : PySem.W.Frag} {mg : Str → Option Value} {base : Heap}
def sp_rim_of : Sp := fun vs H Q _ => ∃ (tb : Addr) (m t : Nat) (L : List Nat), vs = [.ref tb, .int (m : Int)] ∧ LN H tb L ∧ L[m]? = some t ∧ Q (.int (((t ||| m) - m : Nat) : Int)) H
theorem ok_rim_of (L_rim_of : Df K mg "rim_of" s_rim_of P_rim_of) (B : Bi mg) : FnOk P w K mg base CX0 1 L_rim_of.f L_rim_of.fd P_rim_of sp_rim_of := by
  refine L_rim_of.F.ok sc_rim_of (fun vs H Q E h => ?_) (fun cdv A outer s H vs Q E hr h => ?_)
  · obtain ⟨tb, m, t, L, rfl, _⟩ := h
    rfl
  · obtain ⟨tb, m, t, L, rfl, hL, ht, q⟩ := h
    refine ⟨_, (pss_one (ps_ret (pe_op op_sub (pe_op op_or (pe_ix (kIxL (K := K)) (pv 0) (pv 1) (fun _ _ => rfl)) (pv 1)) (pv 1)))), ?_⟩
    refine ⟨.ref tb, rfl, .int (m : Int), rfl, tb, _, (m : Int), .int (t : Int), rfl, rfl, hL.seq, atI_nat (vN_get ht), .int (m : Int), rfl, (t : Int), (m : Int), rfl, rfl, .int (m : Int), rfl, _, (m : Int), rfl, rfl, ?_⟩
    rw [orN]
    have : ((t ||| m : Nat) : Int) - (m : Int) = (((t ||| m) - m : Nat) : Int) := by
      have : m ≤ t ||| m := Nat.right_le_or
      omega
    show Q (V.int (((t ||| m : Nat) : Int) - (m : Int))) H
    rw [this]
    exact q
end
end Bw
/-! ### D_costs -/
namespace Bw
open PySem PySem.Spec PyProof.Rows L2
theorem max_if (a b : Int) : (if b > a then b else a) = max a b := by
  by_cases h : b > a
  · rw [if_pos h]; omega
  · rw [if_neg h]; omega
/-- what was found: a cost for each set so far -/
def FoundOk (A : Adj) (n : Nat) (F : List Int) (k : Nat) : Prop := F.length = k ∧ ∀ (m : Nat) (c : Int), F[m]? = some c → CSpec A (List.range n) m c
theorem FoundOk.start (A : Adj) (n : Nat) : FoundOk A n [-1] 1 := ⟨rfl, fun m c h => by
  cases m with
  | zero => cases h; exact CSpec.zero A _
  | succ m => simp at h⟩
theorem FoundOk.snoc {A : Adj} {n k : Nat} {F : List Int} {c : Int} (h : FoundOk A n F k) (hc : CSpec A (List.range n) k c) : FoundOk A n (F ++ [c]) (k + 1) := by
  refine ⟨by rw [List.length_append, h.1]; rfl, fun m d hd => ?_⟩
  by_cases q : m < F.length
  · rw [List.getElem?_append_left q] at hd
    exact h.2 m d hd
  · rw [List.getElem?_append_right (by omega)] at hd
    by_cases q2 : m - F.length = 0
    · rw [q2] at hd
      cases hd
      have : m = k := by rw [← h.1]; omega
      rw [this]; exact hc
    · have : ([c] : List Int)[m - F.length]? = none := List.getElem?_eq_none (by simp; omega)
      rw [this] at hd; cases hd
theorem FoundOk.get {A : Adj} {n k m : Nat} {F : List Int} (h : FoundOk A n F k) (hm : m < k) : F[m]? = some (F.getD m 0) := by
  have : m < F.length := by rw [h.1]; exact hm
  rw [List.getD_eq_getElem?_getD, List.getElem?_eq_getElem this]
  rfl
theorem FoundOk.spec {A : Adj} {n k m : Nat} {F : List Int} (h : FoundOk A n F k) (hm : m < k) : CSpec A (List.range n) m (F.getD m 0) := h.2 m _ (h.get hm)
section
variable {P : Program} {w : World} {K : PySem.W.Frag} {mg : Str → Option Value} {base : Heap}
def sp_costs : Sp := fun vs H Q _ => ∃ (a : Addr) (n : Nat) (ties : Ties), vs = [.ref a] ∧ WebAt H a n ties ∧ n ≤ 7 ∧ TOk n ties ∧ ∀ p H' F, H p = none → Ex H H' → H' p = some (.lst (F.map V.int)) → FoundOk (adjT ties) n F (2 ^ n) → Q (.ref p) H'
theorem ok_costs (L_costs : Df K mg "costs" s_costs P_costs) (L_arounds_of : Df K mg "arounds_of" s_arounds_of P_arounds_of) (L_sizes_of : Df K mg "sizes_of" s_sizes_of P_sizes_of) (L_piece_from : Df K mg "piece_from" s_piece_from P_piece_from) (L_members_of : Df K mg "members_of" s_members_of P_members_of) (L_rim_of : Df K mg "rim_of" s_rim_of P_rim_of) (B : Bi mg) :
    FnOk P w K mg base CX0 2 L_costs.f L_costs.fd P_costs sp_costs := by
  have G_arounds_of := ok_arounds_of (P := P) (w := w) (K := K) (base := base) L_arounds_of B
  have G_sizes_of := ok_sizes_of (P := P) (w := w) (K := K) (base := base) L_sizes_of B
  have G_piece_from := ok_piece_from (P := P) (w := w) (K := K) (base := base) L_piece_from B
  have G_members_of := ok_members_of (P := P) (w := w) (K := K) (base := base) L_members_of B
  have G_rim_of := ok_rim_of (P := P) (w := w) (K := K) (base := base) L_rim_of B
  refine L_costs.F.ok sc_costs (fun vs H Q E h => ?_) (fun cdv A outer s H vs Q E hr h => ?_)
  · obtain ⟨a, n, ties, rfl, _⟩ := h
    rfl
  · obtain ⟨a, n, ties, rfl, hweb, hn, ok, q⟩ := h
    refine ⟨_, (pss_cons (ps_set (i := 1) sc_costs.nd rfl (Or.inl rfl) (pe_call G_arounds_of (hr.mono (by decide)) (by rfl) L_arounds_of.g L_arounds_of.F.kp L_arounds_of.b .nil pass0 (pa_cons (pv 0) pa_nil)))
 (pss_cons (ps_set (i := 2) sc_costs.nd rfl (Or.inl rfl) (pe_call G_sizes_of (hr.mono (by decide)) (by rfl) L_sizes_of.g L_sizes_of.F.kp L_sizes_of.b .nil pass0 (pa_cons (pe_ix (kIxT (K := K)) (pv 0) pe_int (fun _ _ => rfl)) pa_nil)))
 (pss_cons (ps_set (i := 3) sc_costs.nd rfl (Or.inr rfl) (pe_lst (pa_cons (pe_un un_neg pe_int) pa_nil)))
 (pss_cons (ps_for PassesOwn.never rfl (pi_range2 (by rfl) B.range_ (pa_cons pe_int (pa_cons (pe_callB (kLen (K := K)) (by rfl) B.len_ PySem.boot_len (pa_cons (pv 1) pa_nil)) pa_nil))) (pg_name (i := 4) sc_costs.nd rfl (Or.inr rfl)) (pss_cons (ps_set (i := 5) sc_costs.nd rfl (Or.inl rfl) (pe_call G_piece_from (hr.mono (by decide)) (by rfl) L_piece_from.g L_piece_from.F.kp L_piece_from.b .nil pass0 (pa_cons (pv 1) (pa_cons (pv 4) (pa_cons (pe_op op_and (pv 4) (pe_un un_neg (pv 4))) pa_nil)))))
 (pss_one (ps_if (pt_cmpR op_eq (pv 5) (pv 4) (nomark _)) (pss_cons (ps_set (i := 6) sc_costs.nd rfl (Or.inl rfl) (pe_callB (cr_min rfl) (by rfl) B.min_ (by decide +kernel) (pa_cons (pe_lc (own := [("v", 7)]) (g := gName 7) (tt := tYes) (by rfl) sc_costs.nd (pi_list (pe_call G_members_of (hr.mono (by decide)) (by rfl) L_members_of.g L_members_of.F.kp L_members_of.b .nil pass0 (pa_cons (pe_ix (kIxT (K := K)) (pv 0) pe_int (fun _ _ => rfl)) (pa_cons (pv 4) pa_nil)))) (blkOk_by (own := [("v", 7)]) (N := N_costs) (sc := defScope s_costs) (by decide +kernel)) (fun _ _ _ _ _ => pg_name (i := 7) sc_costs.nd rfl (Or.inl rfl)) (fun _ _ _ _ _ => pts_nil) (fun _ _ _ _ _ => (pe_ix (kIxL (K := K)) (pv 3) (pe_op op_sub (pv 4) (pe_op op_shl pe_int (pv 7))) (fun _ _ => rfl)))) pa_nil)))
 (pss_one (ps_expr (pe_bm PySem.F.plainAttrs_list PySem.F.slot_list_append PySem.F.type_list_append mt_append (pv 3) (pa_cons (pe_callB (call_max2 rfl) (by rfl) B.max_ (by decide +kernel) (pa_cons (pv 6) (pa_cons (pe_ix (kIxL (K := K)) (pv 2) (pe_call G_rim_of (hr.mono (by decide)) (by rfl) L_rim_of.g L_rim_of.F.kp L_rim_of.b .nil pass0 (pa_cons (pv 1) (pa_cons (pv 4) pa_nil))) (fun _ _ => rfl)) pa_nil))) pa_nil))))) (pss_one (ps_expr (pe_bm PySem.F.plainAttrs_list PySem.F.slot_list_append PySem.F.type_list_append mt_append (pv 3) (pa_cons (pe_callB (call_max2 rfl) (by rfl) B.max_ (by decide +kernel) (pa_cons (pe_ix (kIxL (K := K)) (pv 3) (pv 5) (fun _ _ => rfl)) (pa_cons (pe_ix (kIxL (K := K)) (pv 3) (pe_op op_sub (pv 4) (pv 5)) (fun _ _ => rfl)) pa_nil))) pa_nil))))))))
 (pss_one (ps_ret (pv 3))))))), ?_⟩
    obtain ⟨tl, hw, _⟩ := id hweb
    have hs := adjT_sym ties
    have hi := ok.irr
    have i0 : atI [V.int (n : Int), V.ref tl] 0 = some (.int (n : Int)) := atI_nat (j := 0) rfl
    have web0 : ∀ {H1 : Hp}, Ex H H1 → SqT K H1 a [V.int (n : Int), V.ref tl] := fun e => .inl (.inl (e _ _ hw))
    have p128 : 2 ^ n ≤ 128 := pow7 (Nat.le_refl n) hn
    have ppos : 0 < 2 ^ n := Nat.two_pow_pos n
    -- table, sizes, found
    refine ⟨.ref a, rfl, a, n, ties, rfl, hweb, hn, ok, fun tb H1 T ntb e1 htb hT => ?_⟩
    refine ⟨.ref a, rfl, a, _, 0, _, rfl, rfl, web0 e1, i0, n, rfl, hn, fun sb H2 Z nsb e2 hsb hZ => ?_⟩
    refine ⟨1, rfl, sz (by show 1 ≤ 100000; omega), fun fo nfo => ?_⟩
    have e12 := e1.trans e2
    have nfo0 : H fo = none := Evl.fresh_back e12 nfo
    have e3 : Ex H (upd H2 fo (.lst [.int (-1)])) := e12.trans (Evl.Ex.new nfo)
    have htb2 : LN H2 tb T := htb.ex e2
    -- for number in range(1, len(table))
    refine ⟨.ref tb, rfl, tb, vN T, rfl, .inl (Evl.ex_l (Evl.Ex.new nfo) htb2.seq), 1, ((vN T).length : Int), rfl, ⟨by omega, by omega, by omega, ?_⟩, ?_⟩
    · rw [vN_len, hT.1]; omega
    have hcount : (((vN T).length : Int) - 1).toNat = 2 ^ n - 1 := by
      rw [vN_len, hT.1]; omega
    rw [hcount]
    refine for_range (lo := 1) (n := 2 ^ n - 1) (fun i σ H' => ∃ (x4 x5 x6 x7 : Option V) (F : List Int), σ = [some (.ref a), some (.ref tb), some (.ref sb), some (.ref fo), x4, x5, x6, x7] ∧ Ex H2 H' ∧ H' fo = some (.lst (F.map V.int)) ∧ FoundOk (adjT ties) n F (1 + i)) ?_ ?_ ?_
    · exact ⟨none, none, none, none, [-1], rfl, Evl.Ex.new nfo, upd_same, FoundOk.start _ n⟩
    · rintro i σ H' hil ⟨x4, x5, x6, x7, F, rfl, e, hfo, hF⟩
      have hm1 : (1 : Int) + (i : Int) = ((1 + i : Nat) : Int) := by omega
      rw [hm1]
      generalize hm : 1 + i = m at *
      have hm0 : 0 < m := by omega
      have hmn : m < 2 ^ n := by omega
      obtain ⟨k, hk7, hkm, hlow⟩ := lowBit m (by omega) hm0
      have hm' : m < 2 ^ n := hmn
      have hFl : SqL K H' fo (F.map V.int) := .inl (.inl hfo)
      have fget : ∀ x, x < m → atI (F.map V.int) (x : Int) = some (.int (F.getD x 0)) := fun x hx => atI_nat (by rw [List.getElem?_map, hF.get hx]; rfl)
      have hFlen : (F.map V.int).length ≤ 128 := by rw [List.length_map, hF.1]; omega
      -- piece = piece_from(table, number, number & -number)
      refine ⟨.ref tb, rfl, .int (m : Int), rfl, .int (m : Int), rfl, .int (m : Int), rfl, (m : Int), rfl, (m : Int), -(m : Int), rfl, rfl, tb, n, m, 2 ^ k, k, adjT ties, T, ?_, htb2.ex e, hT, hn, hm', Grow.start hkm, fun r H3 e4 hP => ?_⟩
      · show [V.ref tb, V.int (m : Int), V.int (Builtin.bitAnd (m : Int) (-(m : Int)))] = _
        rw [hlow]
      have hrle := bits_le hP.sub
      have hfo3 := e4 _ _ hfo
      have e24 : Ex H2 H3 := e.trans e4
      -- if piece == number
      refine ⟨.int (r : Int), rfl, .int (m : Int), rfl, rfl, _, rfl, ite2 (fun c => ?_) (fun c => ?_)⟩
      · have hrm := eqN c
        subst hrm
        -- best = min([found[number - (1 << v)] for v in members_of(web[0], number)])
        refine ⟨.ref a, rfl, a, _, 0, _, rfl, rfl, web0 (e12.trans e24), i0, .int (r : Int), rfl, n, r, rfl, by omega, fun mo H4 nmo e5 hmo => ?_⟩
        refine ⟨mo, rfl, ⟨_, hmo.seq⟩, fun D hD => ?_⟩
        have hfo4 := e5 _ _ hfo3
        have mem : ∀ v, v ∈ (List.range n).filter (bits r) → r.testBit v = true := fun v hv => (List.mem_filter.1 hv).2
        refine lc_list (xs := vN ((List.range n).filter (bits r))) (fun j H' => Ex H4 H' ∧ H' D = some (.lst ((((List.range n).filter (bits r)).take j).map fun v => V.int (F.getD (r - 2 ^ v) 0)))) ⟨Evl.Ex.new hD, upd_same⟩ (fun j H' _ p => (hmo.ex p.1).seq) (fun j x H' hj p => ?_) (fun H' p => ?_)
        · obtain ⟨e6, hDl⟩ := p
          have hjl : j < ((List.range n).filter (bits r)).length := by have := (List.getElem?_eq_some_iff.1 hj).1; rwa [vN_len] at this
          obtain ⟨v, hv⟩ : ∃ v, ((List.range n).filter (bits r))[j]? = some v := ⟨_, List.getElem?_eq_getElem hjl⟩
          rw [vN_get hv] at hj
          cases hj
          have hvr := mem v (List.mem_of_getElem? hv)
          have hvn : v < n := bit_lt hmn hvr
          have hlt := sub_bit_lt hvr
          have hle := two_pow_le hvr
          refine ⟨rfl, ?_⟩
          have hsub : (r : Int) - 1 * 2 ^ (v : Int).toNat = ((r - 2 ^ v : Nat) : Int) := by
            rw [shl1]; omega
          have hidx : atI (F.map V.int) ((r : Int) - 1 * 2 ^ (v : Int).toNat) = some (.int (F.getD (r - 2 ^ v) 0)) := by
            rw [hsub]; exact fget _ hlt
          refine ⟨.ref fo, rfl, .int (r : Int), rfl, .int (v : Int), rfl, 1, (v : Int), rfl, rfl, ⟨by omega, by omega, by decide⟩, (r : Int), _, rfl, rfl, fo, _, _, .int (F.getD (r - 2 ^ v) 0), rfl, rfl, .inl (.inl (e6 _ _ hfo4)), hidx, _, hDl, ?_, Evl.Ex.mut e6 hD, ?_⟩
          · refine sz' ?_
            rw [List.length_map]
            have := List.length_take_le j ((List.range n).filter (bits r))
            have h2 := List.length_filter_le (bits r) (List.range n)
            rw [List.length_range] at h2
            have h3 : (((List.range n).filter (bits r)).take j).length ≤ ((List.range n).filter (bits r)).length := List.length_take_le' j _
            omega
          · rw [upd_same, take_snoc hv, List.map_append]
            rfl
        · obtain ⟨e6, hDl⟩ := p
          rw [vN_len, List.take_length] at hDl
          have hns : ((List.range n).filter (bits r)).map (fun v => V.int (F.getD (r - 2 ^ v) 0)) = (((List.range n).filter (bits r)).map fun v => F.getD (r - 2 ^ v) 0).map V.int := by
            rw [List.map_map]; rfl
          rw [hns] at hDl
          have hkmem : k ∈ (List.range n).filter (bits r) := List.mem_filter.2 ⟨List.mem_range.2 (bit_lt hmn hkm), hkm⟩
          refine ⟨D, _, rfl, .inl (.inl hDl), ?_, fun best hb hbl => ?_⟩
          · rw [List.length_map]; exact List.length_pos_of_mem hkmem
          -- found.append(max(best, sizes[rim_of(table, number)]))
          obtain ⟨t, ht⟩ : ∃ t, T[r]? = some t := ⟨_, List.getElem?_eq_getElem (by rw [hT.1]; exact hmn)⟩
          have htbits := hT.2 r t ht
          have e26 : Ex H2 H' := (e24.trans e5).trans e6
          have hfo6 := e6 _ _ hfo4
          have hrim : (t ||| r) - r < 2 ^ n := lt_of_bits fun x hx => by
            rw [rim_bits, Bool.and_eq_true] at hx
            obtain ⟨y, hy, hyx⟩ := (htbits x).1 hx.1
            exact (ok.lts hyx).2
          obtain ⟨z, hz⟩ : ∃ z, Z[(t ||| r) - r]? = some z := ⟨_, List.getElem?_eq_getElem (by rw [hZ.1]; exact hrim)⟩
          have hzc := hZ.2 _ z hz
          refine ⟨.ref fo, rfl, .inl ⟨rfl, _, .inl (.inl hfo6)⟩, .int best, rfl, .ref sb, rfl, .ref tb, rfl, .int (r : Int), rfl, tb, r, t, T, rfl, htb2.ex e26, ht, sb, _, (((t ||| r) - r : Nat) : Int), .int (z : Int), rfl, rfl, (hsb.ex e26).seq, atI_nat (vN_get hz), best, (z : Int), rfl, fo, _, _, rfl, rfl, hfo6, sz' (by omega), ?_⟩
          have hnew : CSpec (adjT ties) (List.range n) r (max best ((List.range n).countP (bits ((t ||| r) - r)))) := by
            refine CSpec.whole hs hi hmn hP (rim_ok htbits) ?_ ?_
            · obtain ⟨v, hv, e⟩ := List.mem_map.1 hb
              have hvr := mem v hv
              refine ⟨v, hvr, ?_⟩
              rw [← e]
              exact hF.spec (sub_bit_lt hvr)
            · intro v hvr
              refine ⟨_, hF.spec (sub_bit_lt hvr), hbl _ (List.mem_map.2 ⟨v, List.mem_filter.2 ⟨List.mem_range.2 (bit_lt hmn hvr), hvr⟩, rfl⟩)⟩
          have hF' := hF.snoc hnew
          have hmm : 1 + (i + 1) = r + 1 := by omega
          rw [hmm]
          refine ⟨_, _, _, _, F ++ [max best ((List.range n).countP (bits ((t ||| r) - r)))], rfl, Evl.Ex.mut e26 nfo, ?_, hF'⟩
          rw [upd_same, List.map_append, hzc]
          show some (HO.lst (F.map V.int ++ [V.int (if _ > _ then _ else _)])) = _
          rw [max_if]
          rfl
      · have hne := neN c
        have hlt : r < m := by omega
        have hd : (m : Int) - (r : Int) = ((m - r : Nat) : Int) := by omega
        have hrpos : 0 < r := by
          have := two_pow_le hP.has
          have := Nat.two_pow_pos k
          omega
        have hdl : m - r < m := by omega
        have hidx : atI (F.map V.int) ((m : Int) - (r : Int)) = some (.int (F.getD (m - r) 0)) := by
          rw [hd]; exact fget _ hdl
        refine ⟨.ref fo, rfl, .inl ⟨rfl, _, .inl (.inl hfo3)⟩, .ref fo, rfl, .int (r : Int), rfl, fo, _, (r : Int), .int (F.getD r 0), rfl, rfl, .inl (.inl hfo3), fget _ hlt, .ref fo, rfl, .int (m : Int), rfl, .int (r : Int), rfl, (m : Int), (r : Int), rfl, rfl, fo, _, _, .int (F.getD (m - r) 0), rfl, rfl, .inl (.inl hfo3), hidx, F.getD r 0, F.getD (m - r) 0, rfl, fo, _, _, rfl, rfl, hfo3, sz' (by omega), ?_⟩
        have hnew := CSpec.parts hs hi hP (hF.spec hlt) (hF.spec hdl)
        have hF' := hF.snoc hnew
        have hmm : 1 + (i + 1) = m + 1 := by omega
        rw [hmm]
        refine ⟨_, _, _, _, _, rfl, Evl.Ex.mut e24 nfo, ?_, hF'⟩
        rw [upd_same, List.map_append]
        show some (HO.lst (F.map V.int ++ [V.int (if _ > _ then _ else _)])) = _
        rw [max_if]
        rfl
    · rintro σ H' ⟨x4, x5, x6, x7, F, rfl, e, hfo, hF⟩
      have : 1 + (2 ^ n - 1) = 2 ^ n := by omega
      rw [this] at hF
      exact ⟨.ref fo, rfl, q fo H' F nfo0 (e12.trans e) hfo hF⟩
end
end Bw
/-! ### D_least_width -/
namespace Bw
open PySem PySem.Spec PyProof.Rows L2
section
variable {P : Program} {w : World} {K : PySem.W.Frag} {mg : Str → Option Value} {base : Heap}
def sp_least_width : Sp := fun vs H Q _ => ∃ (a : Addr) (n : Nat) (ties : Ties), vs = [.ref a] ∧ WebAt H a n ties ∧ n ≤ 7 ∧ TOk n ties ∧ ∀ c H', Ex H H' → (∀ w : Nat, c ≤ (w : Int) ↔ El w (adjT ties) (List.range n)) → Q (.int c) H'
theorem ok_least_width (L_least_width : Df K mg "least_width" s_least_width P_least_width) (L_costs : Df K mg "costs" s_costs P_costs) (L_arounds_of : Df K mg "arounds_of" s_arounds_of P_arounds_of) (L_sizes_of : Df K mg "sizes_of" s_sizes_of P_sizes_of) (L_piece_from : Df K mg "piece_from" s_piece_from P_piece_from) (L_members_of : Df K mg "members_of" s_members_of P_members_of) (L_rim_of : Df K mg "rim_of" s_rim_of P_rim_of) (B : Bi mg) :
    FnOk P w K mg base CX0 3 L_least_width.f L_least_width.fd P_least_width sp_least_width := by
  have G_costs := ok_costs (P := P) (w := w) (K := K) (base := base) L_costs L_arounds_of L_sizes_of L_piece_from L_members_of L_rim_of B
  refine L_least_width.F.ok sc_least_width (fun vs H Q E h => ?_) (fun cdv A outer s H vs Q E hr h => ?_)
  · obtain ⟨a, n, ties, rfl, _⟩ := h
    rfl
  · obtain ⟨a, n, ties, rfl, hweb, hn, ok, q⟩ := h
    refine ⟨_, (pss_one (ps_ret (pe_ix (kIxL (K := K)) (pe_call G_costs (hr.mono (by decide)) (by rfl) L_costs.g L_costs.F.kp L_costs.b .nil pass0 (pa_cons (pv 0) pa_nil)) (pe_un un_neg pe_int) (fun _ _ => rfl)))), ?_⟩
    refine ⟨.ref a, rfl, a, n, ties, rfl, hweb, hn, ok, fun p H' F np e hp hF => ?_⟩
    have ppos : 0 < 2 ^ n := Nat.two_pow_pos n
    have hlast : atI (F.map V.int) (-1) = some (.int (F.getD (2 ^ n - 1) 0)) := by
      have hne : F.map V.int ≠ [] := fun z => by
        have := congrArg List.length z
        rw [List.length_map, hF.1] at this
        simp at this
      have e1 : F.map V.int = (F.map V.int).dropLast ++ [.int (F.getD (2 ^ n - 1) 0)] := by
        conv => lhs; rw [← List.dropLast_concat_getLast hne]
        congr 2
        have h1 := List.getLast?_eq_getLast hne
        rw [List.getLast?_eq_getElem?, List.length_map, hF.1, List.getElem?_map, hF.get (by omega)] at h1
        exact (Option.some.inj h1).symm
      rw [e1]
      exact atI_last _ _
    refine ⟨1, rfl, p, _, -1, .int (F.getD (2 ^ n - 1) 0), rfl, rfl, .inl (.inl hp), hlast, ?_⟩
    exact q _ H' e fun w => (hF.spec (by omega)).last ok.irr w
end
end Bw
/-! ### D_law_cell -/
namespace Bw
open PySem PySem.Spec PyProof.Rows L2
section
variable {P : Program} {w : World} {K : PySem.W.Frag} {mg : Str → Option Value} {base : Heap}
def sp_law_cell (K : PySem.W.Frag) : Sp := fun vs H Q _ => ∃ (a : Addr) (ns : List Int) (k : Int), vs = [.ref a, .int k] ∧ SqL K H a (ns.map V.int) ∧ 0 ≤ k ∧ k ≤ 1000 ∧ ∀ z, Q (.int z) H
theorem cell_at {ns : List Int} {i : Int} (h0 : 0 ≤ i) (h1 : i < (ns.length : Int)) : ∃ z, atI (ns.map V.int) i = some (.int z) := by
  obtain ⟨j, rfl⟩ := Int.eq_ofNat_of_zero_le h0
  have hj : j < ns.length := by omega
  refine ⟨ns[j], atI_nat ?_⟩
  rw [List.getElem?_map, List.getElem?_eq_getElem hj]
  rfl
theorem ok_law_cell (L_law_cell : Df K mg "_law_cell" s_law_cell P_law_cell) (B : Bi mg) : FnOk P w K mg base CX0 1 L_law_cell.f L_law_cell.fd P_law_cell (sp_law_cell K) := by
  refine L_law_cell.F.ok sc_law_cell (fun vs H Q E h => ?_) (fun cdv A outer s H vs Q E hr h => ?_)
  · obtain ⟨a, ns, k, rfl, _⟩ := h
    rfl
  · obtain ⟨a, ns, k, rfl, hs, k0, k1, q⟩ := h
    refine ⟨_, (pss_cons (ps_if (pt_cmpR op_lt (pv 1) (pe_callB (kLen (K := K)) (by rfl) B.len_ PySem.boot_len (pa_cons (pv 0) pa_nil)) (nomark _)) (pss_one (ps_ret (pe_ix (kIxL (K := K)) (pv 0) (pv 1) (fun _ _ => rfl)))) pss_nil)
 (pss_cons (ps_if (pt_cmpR op_eq (pe_callB (kLen (K := K)) (by rfl) B.len_ PySem.boot_len (pa_cons (pv 0) pa_nil)) pe_int (nomark _)) (pss_one (ps_ret (pe_op op_add (pe_op op_mul (pe_op op_mul (pv 1) (pv 1)) pe_int) pe_int))) pss_nil)
 (pss_one (ps_ret (pe_op op_add (pe_op op_mul (pe_op op_mod (pe_ix (kIxL (K := K)) (pv 0) (pe_op op_mod (pe_op op_mul (pv 1) pe_int) (pe_callB (kLen (K := K)) (by rfl) B.len_ PySem.boot_len (pa_cons (pv 0) pa_nil))) (fun _ _ => rfl)) pe_int) pe_int) (pe_op op_mul (pe_op op_mul (pv 1) (pv 1)) pe_int)))))), ?_⟩
    have hlen : (ns.map V.int).length = ns.length := List.length_map _
    refine ⟨.int k, rfl, .ref a, rfl, a, _, rfl, .inl hs, k, _, rfl, rfl, _, rfl, ite2 (fun c => ?_) (fun c => ?_)⟩
    · have hk : k < (ns.length : Int) := by
        have := of_decide_eq_true c
        rw [hlen] at this
        exact this
      obtain ⟨z, hz⟩ := cell_at k0 hk
      exact ⟨.ref a, rfl, .int k, rfl, a, _, k, .int z, rfl, rfl, hs, hz, q z⟩
    · refine ⟨.ref a, rfl, a, _, rfl, .inl hs, rfl, _, rfl, ite2 (fun c2 => ?_) (fun c2 => ?_)⟩
      · refine ⟨.int k, rfl, .int k, rfl, k, k, rfl, rfl, .inl ⟨by omega, by omega⟩, _, 151, rfl, rfl, .inr ⟨by omega, by omega⟩, _, 33, rfl, rfl, ?_⟩
        exact q _
      · have hpos : 0 < (ns.length : Int) := by
          have h0 : ns.length ≠ 0 := fun z => c2 (decide_eq_true (by rw [hlen, z]; rfl))
          omega
        have hpos' : (0 : Int) < ((ns.map V.int).length : Int) := by rw [hlen]; exact hpos
        obtain ⟨z, hz⟩ := cell_at (ns := ns) (i := (k * 3) % ((ns.map V.int).length : Int)) (Int.emod_nonneg _ (by omega)) (by rw [← hlen]; exact Int.emod_lt_of_pos _ hpos')
        refine ⟨.ref a, rfl, .int k, rfl, k, 3, rfl, rfl, .inr ⟨by omega, by omega⟩, .ref a, rfl, a, _, rfl, .inl hs, _, _, rfl, rfl, hpos', a, _, _, .int z, rfl, rfl, hs, hz, z, 2147483629, rfl, rfl, by omega, _, 48271, rfl, rfl, .inr ⟨by omega, by omega⟩,
          .int k, rfl, .int k, rfl, k, k, rfl, rfl, .inl ⟨by omega, by omega⟩, _, 5783, rfl, rfl, .inr ⟨by omega, by omega⟩, _, _, rfl, rfl, ?_⟩
        exact q _
end
end Bw
/-! ### D_law_turned -/
namespace Bw
open PySem PySem.Spec PyProof.Rows L2
section
variable {P : Program} {w : World} {K : PySem.W.Frag} {mg : Str → Option Value} {base : Heap}
theorem vN_ins (L : List Nat) (j v : Nat) : (vN L).take j ++ [V.int (v : Int)] ++ (vN L).drop j = vN (L.take j ++ [v] ++ L.drop j) := by
  unfold vN
  rw [List.map_append, List.map_append, List.map_take, List.map_drop]
  rfl
def sp_law_turned (K : PySem.W.Frag) : Sp := fun vs H Q _ => ∃ (a : Addr) (ns : List Int) (n : Nat), vs = [.ref a, .int (n : Int)] ∧ SqL K H a (ns.map V.int) ∧ n ≤ 7 ∧ ∀ p H' L, H p = none → Ex H H' → LN H' p L → L.length = n → (∀ x ∈ L, x < n) → Q (.ref p) H'
theorem ok_law_turned (L_law_turned : Df K mg "_law_turned" s_law_turned P_law_turned) (L_law_cell : Df K mg "_law_cell" s_law_cell P_law_cell) (B : Bi mg) : FnOk P w K mg base CX0 2 L_law_turned.f L_law_turned.fd P_law_turned (sp_law_turned K) := by
  have G_law_cell := ok_law_cell (P := P) (w := w) (base := base) L_law_cell B
  refine L_law_turned.F.ok sc_law_turned (fun vs H Q E h => ?_) (fun cdv A outer s H vs Q E hr h => ?_)
  · obtain ⟨a, ns, n, rfl, _⟩ := h
    rfl
  · obtain ⟨a, ns, n, rfl, hs, hn, q⟩ := h
    refine ⟨_, (pss_cons (ps_set (i := 2) sc_law_turned.nd rfl (Or.inl rfl) (pe_lst pa_nil))
 (pss_cons (ps_for PassesOwn.never rfl (pi_range1 (by rfl) B.range_ (pa_cons (pv 1) pa_nil)) (pg_name (i := 3) sc_law_turned.nd rfl (Or.inl rfl)) (pss_one (ps_expr (pe_bm PySem.F.plainAttrs_list PySem.F.slot_list_insert PySem.F.type_list_insert mt_insert (pv 2) (pa_cons (pe_op op_mod (pe_call G_law_cell (hr.mono (by decide)) (by rfl) L_law_cell.g L_law_cell.F.kp L_law_cell.b .nil pass0 (pa_cons (pv 0) (pa_cons (pe_op op_add pe_int (pv 3)) pa_nil))) (pe_op op_add (pv 3) pe_int)) (pa_cons (pv 3) pa_nil))))))
 (pss_one (ps_ret (pv 2))))), ?_⟩
    refine ⟨Nat.zero_le _, fun o no => ?_⟩
    refine ⟨.int (n : Int), rfl, (n : Int), rfl, by omega, by omega, ?_⟩
    rw [Int.toNat_natCast]
    refine for_range (lo := 0) (n := n) (fun i σ H' => ∃ (x3 : Option V) (L : List Nat), σ = [some (.ref a), some (.int (n : Int)), some (.ref o), x3] ∧ Ex H H' ∧ LN H' o L ∧ L.length = i ∧ ∀ x ∈ L, x < n) ?_ ?_ ?_
    · exact ⟨none, [], rfl, Evl.Ex.new no, upd_same, rfl, fun x hx => by cases hx⟩
    · rintro i σ H' hi ⟨x3, L, rfl, e, ho, hl, hlt⟩
      have z0 : (0 : Int) + (i : Int) = (i : Int) := Int.zero_add _
      rw [z0]
      have hpos : (0 : Int) < (i : Int) + 1 := by omega
      refine ⟨.ref o, rfl, .inl ⟨rfl, _, .inl (.inl ho)⟩, .ref a, rfl, .int (i : Int), rfl, 2, (i : Int), rfl, rfl, a, ns, 2 + (i : Int), rfl, Evl.ex_l e hs, by omega, by omega, fun z => ?_⟩
      have m0 : 0 ≤ z % ((i : Int) + 1) := Int.emod_nonneg _ (by omega)
      have m1 : z % ((i : Int) + 1) < (i : Int) + 1 := Int.emod_lt_of_pos _ hpos
      refine ⟨.int (i : Int), rfl, (i : Int), 1, rfl, rfl, z, (i : Int) + 1, rfl, rfl, hpos, .int (i : Int), rfl, o, vN L, z % ((i : Int) + 1), .int (i : Int), rfl, rfl, ho, sz' (by rw [vN_len]; omega), m0, by omega, ?_⟩
      refine ⟨_, L.take (z % ((i : Int) + 1)).toNat ++ [i] ++ L.drop (z % ((i : Int) + 1)).toNat, rfl, Evl.Ex.mut e no, ?_, ?_, ?_⟩
      · unfold LN
        rw [upd_same, vN_ins]
      · simp only [List.length_append, List.length_take, List.length_drop, List.length_singleton]
        omega
      · intro x hx
        rcases List.mem_append.1 hx with hx | hx
        · rcases List.mem_append.1 hx with hx | hx
          · exact hlt x (List.mem_of_mem_take hx)
          · rw [List.mem_singleton] at hx; omega
        · exact hlt x (List.mem_of_mem_drop hx)
    · rintro σ H' ⟨x3, L, rfl, e, ho, hl, hlt⟩
      exact ⟨.ref o, rfl, q o H' L no e ho hl hlt⟩
end
end Bw
/-! ### D_law_ties -/
namespace Bw
open PySem PySem.Spec PyProof.Rows L2
/-- rows of truth values, each a list of its own, none known at H0 -/
def TB (H0 H : Hp) (a : Addr) (n : Nat) (t : Nat → Nat → Bool) : Prop :=
  ∃ g : Nat → Addr, H a = some (.lst ((List.range n).map fun x => V.ref (g x))) ∧ (∀ x, x < n → g x ≠ a ∧ H0 (g x) = none ∧ H (g x) = some (.lst ((List.range n).map fun y => V.bl (t x y)))) ∧ ∀ x y, x < n → y < n → x ≠ y → g x ≠ g y
theorem TB.ex {H0 H H' : Hp} {a : Addr} {n : Nat} {t : Nat → Nat → Bool} (h : TB H0 H a n t) (e : Ex H H') : TB H0 H' a n t := by
  obtain ⟨g, h1, h2, h3⟩ := h
  exact ⟨g, e _ _ h1, fun x hx => ⟨(h2 x hx).1, (h2 x hx).2.1, e _ _ (h2 x hx).2.2⟩, h3⟩
theorem falses (n : Nat) : (List.replicate n [V.bl false]).flatten = (List.range n).map fun _ => V.bl false := by
  induction n with
  | zero => rfl
  | succ n ih =>
    rw [List.replicate_succ', List.flatten_append, ih, List.range_succ, List.map_append]
    rfl
theorem TL.snoc {H H2 : Hp} {a p : Addr} {ties : Ties} {x y : Nat} {ys : List V} (h : TL H a ties) (e : Ex H H2) (ha : H2 a = some (.lst ys)) (hp : H2 p = some (.tup [.int (x : Int), .int (y : Int)])) :
    ∃ xs, H a = some (.lst xs) ∧ xs.length = ties.length ∧ TL (upd H2 a (.lst (xs ++ [.ref p]))) a (ties ++ [(x, y)]) := by
  obtain ⟨g, h1, h2⟩ := h
  refine ⟨_, h1, by simp, fun i => if i = ties.length then p else g i, ?_, fun i u v hi => ?_⟩
  · rw [upd_same, range_snoc_refs, List.length_append, List.length_singleton]
  · by_cases q : i = ties.length
    · simp only [if_pos q]
      rw [q, List.getElem?_concat_length] at hi
      cases hi
      rw [upd_ne (ne_of hp ha fun z => by cases z)]
      exact hp
    · simp only [if_neg q]
      have hl : i < ties.length := by
        have := (List.getElem?_eq_some_iff.1 hi).1
        rw [List.length_append, List.length_singleton] at this
        omega
      rw [List.getElem?_append_left hl] at hi
      have := h2 i u v hi
      rw [upd_ne (ne_of (e _ _ this) ha fun z => by cases z)]
      exact e _ _ this
theorem TOk.snoc {n : Nat} {ties : Ties} {a b : Nat} (h : TOk n ties) (hn : (a, b) ∉ ties) (hab : a < b) (hb : b < n) : TOk n (ties ++ [(a, b)]) := by
  refine ⟨?_, fun x y hxy => ?_⟩
  · rw [List.nodup_append]
    exact ⟨h.nd, by simp, fun u hu v hv e => by rw [List.mem_singleton] at hv; exact hn (by rw [← hv, ← e]; exact hu)⟩
  · rw [List.mem_append, List.mem_singleton] at hxy
    rcases hxy with q | q
    · exact h.lt x y q
    · cases q; exact ⟨hab, hb⟩
theorem min_nat (i j : Nat) : (if (j : Int) < (i : Int) then (j : Int) else (i : Int)) = ((min i j : Nat) : Int) := by
  by_cases h : (j : Int) < (i : Int)
  · rw [if_pos h]; omega
  · rw [if_neg h]; omega
theorem max_nat (i j : Nat) : (if (j : Int) > (i : Int) then (j : Int) else (i : Int)) = ((max i j : Nat) : Int) := by
  by_cases h : (j : Int) > (i : Int)
  · rw [if_pos h]; omega
  · rw [if_neg h]; omega
section
variable {P : Program} {w : World} {K : PySem.W.Frag} {mg : Str → Option Value} {base : Heap}
def sp_law_ties (K : PySem.W.Frag) : Sp := fun vs H Q _ => ∃ (a : Addr) (ns : List Int) (n : Nat), vs = [.ref a, .int (n : Int)] ∧ SqL K H a (ns.map V.int) ∧ n ≤ 7 ∧ ∀ p H' ties, H p = none → Ex H H' → TL H' p ties → TOk n ties → ties.length ≤ 100 → Q (.ref p) H'
theorem ok_law_ties (L_law_ties : Df K mg "_law_ties" s_law_ties P_law_ties) (L_law_turned : Df K mg "_law_turned" s_law_turned P_law_turned) (L_law_cell : Df K mg "_law_cell" s_law_cell P_law_cell) (B : Bi mg) : FnOk P w K mg base CX0 3 L_law_ties.f L_law_ties.fd P_law_ties (sp_law_ties K) := by
  have G_law_cell := ok_law_cell (P := P) (w := w) (base := base) L_law_cell B
  have G_law_turned := ok_law_turned (P := P) (w := w) (base := base) L_law_turned L_law_cell B
  refine L_law_ties.F.ok sc_law_ties (fun vs H Q E h => ?_) (fun cdv A outer s H vs Q E hr h => ?_)
  · obtain ⟨a, ns, n, rfl, _⟩ := h
    rfl
  · obtain ⟨a, ns, n, rfl, hs, hn, q⟩ := h
    refine ⟨_, (pss_cons (ps_set (i := 2) sc_law_ties.nd rfl (Or.inl rfl) (pe_call G_law_turned (hr.mono (by decide)) (by rfl) L_law_turned.g L_law_turned.F.kp L_law_turned.b .nil pass0 (pa_cons (pv 0) (pa_cons (pv 1) pa_nil))))
 (pss_cons (ps_setLc (i := 3) (own := [("_law_k", 5)]) (g := gName 5) (tt := tYes) rfl sc_law_ties.nd rfl rfl (sw_true rfl rfl rfl (by decide +kernel)) (pi_range1 (by rfl) B.range_ (pa_cons (pv 1) pa_nil)) (blkOk_by (own := [("_law_k", 5)]) (N := N_law_ties) (sc := defScope s_law_ties) (by decide +kernel)) (fun _ _ _ _ _ => pg_name (i := 5) sc_law_ties.nd rfl (Or.inl rfl)) (fun _ _ _ _ _ => pts_nil) (fun _ _ _ _ _ => (pe_op op_rep (pe_lst (pa_cons pe_bl pa_nil)) (pv 1))))
 (pss_cons (ps_set (i := 4) sc_law_ties.nd rfl (Or.inl rfl) (pe_op op_add pe_int (pe_op op_mod (pe_op op_fdiv (pe_call G_law_cell (hr.mono (by decide)) (by rfl) L_law_cell.g L_law_cell.F.kp L_law_cell.b .nil pass0 (pa_cons (pv 0) (pa_cons pe_int pa_nil))) pe_int) pe_int)))
 (pss_cons (ps_for PassesOwn.never rfl (pi_range2 (by rfl) B.range_ (pa_cons pe_int (pa_cons (pv 1) pa_nil))) (pg_name (i := 5) sc_law_ties.nd rfl (Or.inl rfl)) (pss_cons (ps_set (i := 6) sc_law_ties.nd rfl (Or.inl rfl) (pe_call G_law_cell (hr.mono (by decide)) (by rfl) L_law_cell.g L_law_cell.F.kp L_law_cell.b .nil pass0 (pa_cons (pv 0) (pa_cons (pe_op op_add pe_int (pv 5)) pa_nil))))
 (pss_one (ps_for PassesOwn.never rfl (pi_range1 (by rfl) B.range_ (pa_cons (pe_callB (call_min2 rfl) (by rfl) B.min_ (by decide +kernel) (pa_cons (pe_op op_mod (pv 6) pe_int) (pa_cons (pv 4) pa_nil))) pa_nil)) (pg_name (i := 7) sc_law_ties.nd rfl (Or.inl rfl)) (pss_cons (ps_set (i := 8) sc_law_ties.nd rfl (Or.inl rfl) (pe_ix (kIxL (K := K)) (pv 2) (pe_op op_mod (pe_op op_add (pe_op op_mod (pe_op op_fdiv (pv 6) pe_int) pe_int) (pv 7)) (pv 5)) (fun _ _ => rfl)))
 (pss_one (ps_asg pe_bl (pg_sub (pe_ix (kIxL (K := K)) (pv 3) (pe_callB (call_min2 rfl) (by rfl) B.min_ (by decide +kernel) (pa_cons (pe_ix (kIxL (K := K)) (pv 2) (pv 5) (fun _ _ => rfl)) (pa_cons (pv 8) pa_nil))) (fun _ _ => rfl)) (pe_callB (call_max2 rfl) (by rfl) B.max_ (by decide +kernel) (pa_cons (pe_ix (kIxL (K := K)) (pv 2) (pv 5) (fun _ _ => rfl)) (pa_cons (pv 8) pa_nil))) set_list))))))))
 (pss_cons (ps_set (i := 9) sc_law_ties.nd rfl (Or.inl rfl) (pe_ix (kIxL (K := K)) (pe_lst (pa_cons pe_int (pa_cons pe_int (pa_cons pe_int (pa_cons pe_int pa_nil))))) (pe_op op_mod (pe_call G_law_cell (hr.mono (by decide)) (by rfl) L_law_cell.g L_law_cell.F.kp L_law_cell.b .nil pass0 (pa_cons (pv 0) (pa_cons pe_int pa_nil))) pe_int) (fun _ _ => rfl)))
 (pss_cons (ps_set (i := 10) sc_law_ties.nd rfl (Or.inl rfl) (pe_lst pa_nil))
 (pss_cons (ps_for PassesOwn.never rfl (pi_range1 (by rfl) B.range_ (pa_cons (pv 1) pa_nil)) (pg_name (i := 11) sc_law_ties.nd rfl (Or.inl rfl)) (pss_one (ps_for PassesOwn.never rfl (pi_range2 (by rfl) B.range_ (pa_cons (pe_op op_add (pv 11) pe_int) (pa_cons (pv 1) pa_nil))) (pg_name (i := 12) sc_law_ties.nd rfl (Or.inl rfl)) (pss_cons (ps_set (i := 13) sc_law_ties.nd rfl (Or.inl rfl) (pe_op op_mod (pe_op op_mul (pe_op op_add (pe_op op_add (pe_op op_mod (pe_call G_law_cell (hr.mono (by decide)) (by rfl) L_law_cell.g L_law_cell.F.kp L_law_cell.b .nil pass0 (pa_cons (pv 0) (pa_cons (pe_op op_add (pe_op op_add pe_int (pe_op op_mul pe_int (pv 11))) (pv 12)) pa_nil))) pe_int) (pe_op op_mul pe_int (pv 11))) (pv 12)) pe_int) pe_int))
 (pss_one (ps_if (PW.pt (pw_or (pt_val (pe_ix (kIxL (K := K)) (pe_ix (kIxL (K := K)) (pv 3) (pv 11) (fun _ _ => rfl)) (pv 12) (fun _ _ => rfl))) (pw_or1 (pt_cmpR op_lt (pe_op op_mod (pe_op op_fdiv (pv 13) pe_int) pe_int) (pv 9) (nomark _))))) (pss_one (ps_expr (pe_bm PySem.F.plainAttrs_list PySem.F.slot_list_append PySem.F.type_list_append mt_append (pv 10) (pa_cons (pe_tup (pa_cons (pv 11) (pa_cons (pv 12) pa_nil))) pa_nil)))) pss_nil))))))
 (pss_one (ps_ret (pv 10)))))))))), ?_⟩
    refine ⟨.ref a, rfl, .int (n : Int), rfl, a, ns, n, rfl, hs, hn, fun tu H1 L ntu e1 htu hLl hLt => ?_⟩
    -- tied = [[False] * n for k in range(n)]
    refine ⟨.int (n : Int), rfl, (n : Int), rfl, by omega, by omega, fun td ntd => ?_⟩
    rw [Int.toNat_natCast]
    refine lc_range (lo := 0) (n := n) (fun i H' => Ex H1 H' ∧ ∃ g : Nat → Addr, H' td = some (.lst ((List.range i).map fun x => V.ref (g x))) ∧ (∀ x, x < i → g x ≠ td ∧ H1 (g x) = none ∧ H' (g x) = some (.lst ((List.range n).map fun y => V.bl false))) ∧ ∀ x y, x < i → y < i → x ≠ y → g x ≠ g y) ⟨Evl.Ex.new ntd, fun _ => 0, upd_same, fun x hx => absurd hx (Nat.not_lt_zero x), fun x y hx => absurd hx (Nat.not_lt_zero x)⟩ (fun i H' hi p => ?_) (fun H2 p => ?_)
    · obtain ⟨e2, g, g1, g2, g3⟩ := p
      refine ⟨rfl, ?_⟩
      refine ⟨sz (by show 1 ≤ 100000; omega), fun o no => ?_⟩
      have e3 : Ex H' (upd H' o (.lst [.bl false])) := Evl.Ex.new no
      refine ⟨.int (n : Int), rfl, o, (n : Int), [.bl false], rfl, rfl, upd_same, by omega, by omega, sz (by show 1 * (n : Int).toNat ≤ 100000; omega), fun r nr => ?_⟩
      rw [Int.toNat_natCast, falses]
      have e4 := e3.trans (Evl.Ex.new (o := .lst ((List.range n).map fun _ => V.bl false)) nr)
      have hr2 : (upd (upd H' o (.lst [.bl false])) r (.lst ((List.range n).map fun _ => V.bl false))) r = some (.lst ((List.range n).map fun _ => V.bl false)) := upd_same
      have nr' : H' r = none := Evl.fresh_back e3 nr
      generalize upd (upd H' o (.lst [.bl false])) r (.lst ((List.range n).map fun _ => V.bl false)) = H2 at e4 hr2 ⊢
      have rtd : r ≠ td := fun z => by rw [z, g1] at nr'; cases nr'
      refine ⟨_, e4 _ _ g1, sz' (by rw [List.length_map, List.length_range]; omega), Evl.Ex.mut (e2.trans e4) ntd, fun z => if z = i then r else g z, ?_, fun z hz => ?_, fun x y hx hy hxy => ?_⟩
      · rw [upd_same, range_snoc_refs]
      · by_cases c : z = i
        · simp only [if_pos c]
          exact ⟨rtd, Evl.fresh_back e2 nr', by rw [upd_ne rtd]; exact hr2⟩
        · simp only [if_neg c]
          obtain ⟨k1, k2, k3⟩ := g2 z (by omega)
          exact ⟨k1, k2, by rw [upd_ne k1]; exact e4 _ _ k3⟩
      · have fresh : ∀ z, z < i → g z ≠ r := fun z hz e => by
          have := (g2 z hz).2.2
          rw [e, nr'] at this; cases this
        by_cases c1 : x = i
        · by_cases c2 : y = i
          · exact absurd (c1.trans c2.symm) hxy
          · simp only [if_pos c1, if_neg c2]
            exact Ne.symm (fresh y (by omega))
        · by_cases c2 : y = i
          · simp only [if_neg c1, if_pos c2]
            exact fresh x (by omega)
          · simp only [if_neg c1, if_neg c2]
            exact g3 x y (by omega) (by omega) hxy
    obtain ⟨e2, g, g1, g2, g3⟩ := p
    have hTB0 : TB H1 H2 td n (fun _ _ => false) := ⟨g, g1, g2, g3⟩
    -- most = 1 + cell(script, 1) // 3 % 4
    refine ⟨.ref a, rfl, a, ns, 1, rfl, Evl.ex_l (e1.trans e2) hs, by omega, by omega, fun z1 => ?_⟩
    refine ⟨z1, 3, rfl, rfl, ⟨by omega, by omega⟩, _, 4, rfl, rfl, by omega, 1, _, rfl, rfl, ?_⟩
    dsimp only
    have hm1 : 0 ≤ z1 / 3 % 4 := Int.emod_nonneg _ (by omega)
    have hm2 : z1 / 3 % 4 < 4 := Int.emod_lt_of_pos _ (by omega)
    generalize hmost : 1 + z1 / 3 % 4 = most
    have hmost1 : 1 ≤ most := by omega
    -- for k in range(1, n)
    refine ⟨.int (n : Int), rfl, 1, (n : Int), rfl, ⟨by omega, by omega, by omega, by omega⟩, ?_⟩
    have hcount : ((n : Int) - 1).toNat = n - 1 := by omega
    rw [hcount]
    refine for_range (lo := 1) (n := n - 1) (fun i σ H' => ∃ (x5 x6 x7 x8 x9 x10 x11 x12 x13 : Option V) (t : Nat → Nat → Bool), σ = [some (.ref a), some (.int (n : Int)), some (.ref tu), some (.ref td), some (.int most), x5, x6, x7, x8, x9, x10, x11, x12, x13] ∧ Ex H1 H' ∧ TB H1 H' td n t) ?_ ?_ ?_
    · exact ⟨none, none, none, none, none, none, none, none, none, _, rfl, e2, hTB0⟩
    · rintro i σ H' hi ⟨x5, x6, x7, x8, x9, x10, x11, x12, x13, t, rfl, e3, hT⟩
      have hk1 : (1 : Int) + (i : Int) = ((1 + i : Nat) : Int) := by omega
      rw [hk1]
      generalize hk : 1 + i = k at *
      have hkn : k < n := by omega
      have hkpos : 0 < k := by omega
      -- cell_here = cell(script, 12 + k)
      refine ⟨.ref a, rfl, .int (k : Int), rfl, 12, (k : Int), rfl, rfl, a, ns, 12 + (k : Int), rfl, Evl.ex_l (e1.trans e3) hs, by omega, by omega, fun ch => ?_⟩
      have hc1 : 0 ≤ ch % 4 := Int.emod_nonneg _ (by omega)
      have hc2 : ch % 4 < 4 := Int.emod_lt_of_pos _ (by omega)
      -- for j in range(min(cell_here % 4, most))
      have hmin : -(2 ^ 62) ≤ (if most < ch % 4 then most else ch % 4) ∧ (if most < ch % 4 then most else ch % 4) < 2 ^ 62 := by
        by_cases c : most < ch % 4
        · rw [if_pos c]; omega
        · rw [if_neg c]; omega
      refine ⟨.int ch, rfl, ch, 4, rfl, rfl, by omega, .int most, rfl, ch % 4, most, rfl, _, rfl, hmin.1, hmin.2, ?_⟩
      refine for_range (lo := 0) (fun j σ H' => ∃ (x7 x8 : Option V) (t : Nat → Nat → Bool), σ = [some (.ref a), some (.int (n : Int)), some (.ref tu), some (.ref td), some (.int most), some (.int (k : Int)), some (.int ch), x7, x8, x9, x10, x11, x12, x13] ∧ Ex H1 H' ∧ TB H1 H' td n t) ?_ ?_ ?_
      · exact ⟨x7, x8, t, rfl, e3, hT⟩
      · rintro j σ H4 hj ⟨x7, x8, t, rfl, e4, g, g1, g2, g3⟩
        have htu4 : SqL K H4 tu (vN L) := .inl (.inl (e4 _ _ htu))
        have hd1 : 0 ≤ ch / 4 % 997 := Int.emod_nonneg _ (by omega)
        -- other = turned[(cell_here // 4 % 997 + j) % k]
        have hid0 : 0 ≤ (ch / 4 % 997 + (0 + (j : Int))) % (k : Int) := Int.emod_nonneg _ (by omega)
        have hid1 : (ch / 4 % 997 + (0 + (j : Int))) % (k : Int) < (k : Int) := Int.emod_lt_of_pos _ (by omega)
        obtain ⟨ix, hix⟩ := Int.eq_ofNat_of_zero_le hid0
        have hixn : ix < L.length := by omega
        have hoL : L[ix]? = some L[ix] := List.getElem?_eq_getElem hixn
        have hon : L[ix] < n := hLt _ (List.getElem_mem hixn)
        have hkl : k < L.length := by omega
        have hkL : L[k]? = some L[k] := List.getElem?_eq_getElem hkl
        have hkLn : L[k] < n := hLt _ (List.getElem_mem hkl)
        refine ⟨.ref tu, rfl, .int ch, rfl, ch, 4, rfl, rfl, ⟨by omega, by omega⟩, _, 997, rfl, rfl, by omega, .int (0 + (j : Int)), rfl, _, _, rfl, rfl, .int (k : Int), rfl, _, (k : Int), rfl, rfl, by omega, tu, vN L, _, .int (L[ix] : Int), rfl, rfl, htu4, by rw [hix]; exact atI_nat (vN_get hoL), ?_⟩
        -- tied[min(..)][max(..)] = True
        have hx : min L[k] L[ix] < n := by omega
        have hy : max L[k] L[ix] < n := by omega
        refine ⟨.ref td, rfl, .ref tu, rfl, .int (k : Int), rfl, tu, vN L, (k : Int), .int (L[k] : Int), rfl, rfl, htu4, atI_nat (vN_get hkL), .int (L[ix] : Int), rfl, (L[k] : Int), (L[ix] : Int), rfl, td, _, _, .ref (g (min L[k] L[ix])), rfl, rfl, .inl (.inl g1), by rw [min_nat]; exact atI_nat (range_get hx),
          .ref tu, rfl, .int (k : Int), rfl, tu, vN L, (k : Int), .int (L[k] : Int), rfl, rfl, htu4, atI_nat (vN_get hkL), .int (L[ix] : Int), rfl, (L[k] : Int), (L[ix] : Int), rfl,
          g (min L[k] L[ix]), _, _, max L[k] L[ix], rfl, rfl, (g2 _ hx).2.2, by rw [max_nat]; exact Evl.ixN_nat (by simpa using hy), ?_⟩
        generalize hX : min L[k] L[ix] = X at *
        generalize hY : max L[k] L[ix] = Y at *
        refine ⟨_, _, fun u v => if u = X ∧ v = Y then true else t u v, rfl, Evl.Ex.mut e4 (g2 X hx).2.1, g, ?_, fun z hz => ⟨(g2 z hz).1, (g2 z hz).2.1, ?_⟩, g3⟩
        · rw [upd_ne (Ne.symm (g2 X hx).1)]
          exact g1
        · by_cases c : z = X
          · rw [c, upd_same, range_set hy]
            congr 3
            funext v
            by_cases c2 : v = Y
            · simp [c2]
            · simp [c2]
          · rw [upd_ne (g3 z X hz hx c)]
            rw [(g2 z hz).2.2]
            congr 3
            funext v
            simp [c]
      · rintro σ H4 ⟨x7, x8, t, rfl, e4, hT4⟩
        exact ⟨_, _, _, _, _, _, _, _, _, t, rfl, e4, hT4⟩
    · rintro σ H3 ⟨x5, x6, x7, x8, x9, x10, x11, x12, x13, t, rfl, e3, hT⟩
      have e13 := e1.trans e3
      -- share = [0, 0, 1, 3][cell(script, 1) % 4]
      refine ⟨sz (by show 4 ≤ 100000; omega), fun so nso => ?_⟩
      have e4 : Ex H3 (upd H3 so (.lst [.int 0, .int 0, .int 1, .int 3])) := Evl.Ex.new nso
      refine ⟨.ref a, rfl, a, ns, 1, rfl, Evl.ex_l (e13.trans e4) hs, by omega, by omega, fun z2 => ?_⟩
      have hz1 : 0 ≤ z2 % 4 := Int.emod_nonneg _ (by omega)
      have hz2 : z2 % 4 < 4 := Int.emod_lt_of_pos _ (by omega)
      obtain ⟨sh, hsh⟩ : ∃ sh : Int, atI [V.int 0, V.int 0, V.int 1, V.int 3] (z2 % 4) = some (.int sh) := by
        obtain ⟨zz, hzz⟩ := Int.eq_ofNat_of_zero_le hz1
        rw [hzz]
        have : zz < 4 := by omega
        match zz, this with
        | 0, _ => exact ⟨0, atI_nat (j := 0) rfl⟩
        | 1, _ => exact ⟨0, atI_nat (j := 1) rfl⟩
        | 2, _ => exact ⟨1, atI_nat (j := 2) rfl⟩
        | 3, _ => exact ⟨3, atI_nat (j := 3) rfl⟩
      refine ⟨z2, 4, rfl, rfl, by omega, so, _, _, .int sh, rfl, rfl, .inl (.inl upd_same), hsh, ?_⟩
      have hT4 := hT.ex e4
      have e14 := e3.trans e4
      generalize upd H3 so (.lst [.int 0, .int 0, .int 1, .int 3]) = H4 at *
      -- ties_here = []
      refine ⟨Nat.zero_le _, fun fo nfo => ?_⟩
      have nfo1 : H1 fo = none := Evl.fresh_back e14 nfo
      have nfo0 : H fo = none := Evl.fresh_back e1 nfo1
      have e5 : Ex H4 (upd H4 fo (.lst [])) := Evl.Ex.new nfo
      -- for a in range(n)
      refine ⟨.int (n : Int), rfl, (n : Int), rfl, by omega, by omega, ?_⟩
      rw [Int.toNat_natCast]
      refine for_range (lo := 0) (n := n) (fun i σ H' => ∃ (x11 x12 x13 : Option V) (ties : Ties), σ = [some (.ref a), some (.int (n : Int)), some (.ref tu), some (.ref td), some (.int most), x5, x6, x7, x8, some (.int sh), some (.ref fo), x11, x12, x13] ∧ Ex H4 H' ∧ TL H' fo ties ∧ TOk n ties ∧ (∀ x y, (x, y) ∈ ties → x < i) ∧ ties.length ≤ 8 * i) ?_ ?_ ?_
      · refine ⟨x11, x12, x13, [], rfl, e5, ⟨fun _ => 0, ?_, fun i x y h => by simp at h⟩, ⟨List.nodup_nil, fun x y h => (by cases h)⟩, fun x y h => (by cases h), Nat.zero_le _⟩
        rw [upd_same]
        rfl
      · rintro i σ H' hi ⟨x11, x12, x13, ties, rfl, e6, hL, hO, hlt, hlen⟩
        have z0 : (0 : Int) + (i : Int) = (i : Int) := Int.zero_add _
        rw [z0]
        -- for b in range(a + 1, n)
        refine ⟨.int (i : Int), rfl, (i : Int), 1, rfl, rfl, .int (n : Int), rfl, _, (n : Int), rfl, ⟨by omega, by omega, by omega, by omega⟩, ?_⟩
        have hcnt : ((n : Int) - ((i : Int) + 1)).toNat = n - (i + 1) := by omega
        rw [hcnt]
        refine for_range (lo := (i : Int) + 1) (n := n - (i + 1)) (fun j σ H' => ∃ (x12 x13 : Option V) (ties : Ties), σ = [some (.ref a), some (.int (n : Int)), some (.ref tu), some (.ref td), some (.int most), x5, x6, x7, x8, some (.int sh), some (.ref fo), some (.int (i : Int)), x12, x13] ∧ Ex H4 H' ∧ TL H' fo ties ∧ TOk n ties ∧ (∀ x y, (x, y) ∈ ties → x < i ∨ (x = i ∧ y < i + 1 + j)) ∧ ties.length ≤ 8 * i + j) ?_ ?_ ?_
        · exact ⟨x12, x13, ties, rfl, e6, hL, hO, fun x y h => .inl (hlt x y h), hlen⟩
        · rintro j σ H5 hj ⟨x12, x13, ties, rfl, e7, hL5, hO5, hlt5, hlen5⟩
          have hb : (i : Int) + 1 + (j : Int) = ((i + 1 + j : Nat) : Int) := by omega
          rw [hb]
          generalize hbb : i + 1 + j = b at *
          have hbn : b < n := by omega
          have hib : i < b := by omega
          -- mixed = ..
          refine ⟨.ref a, rfl, .int (i : Int), rfl, 5, (i : Int), rfl, rfl, .inl ⟨by omega, by omega⟩, 22, _, rfl, rfl, .int (b : Int), rfl, _, (b : Int), rfl, rfl, a, ns, _, rfl, Evl.ex_l ((e1.trans e14).trans e7) hs, by omega, by omega, fun z3 => ?_⟩
          refine ⟨z3, 1048573, rfl, rfl, by omega, .int (i : Int), rfl, 61, (i : Int), rfl, rfl, .inl ⟨by omega, by omega⟩, _, _, rfl, rfl, .int (b : Int), rfl, _, (b : Int), rfl, rfl, _, 48271, rfl, rfl, .inr ⟨by omega, by omega⟩, _, 2147483647, rfl, rfl, by omega, ?_⟩
          dsimp only
          generalize (z3 % 1048573 + 61 * (i : Int) + (b : Int)) * 48271 % 2147483647 = mixed
          obtain ⟨g, g1, g2, g3⟩ := hT4.ex e7
          have hti := (g2 i hi).2.2
          -- both ways out of the test
          have no : ∃ (x12' x13' : Option V) (ties' : Ties), [some (V.ref a), some (.int (n : Int)), some (.ref tu), some (.ref td), some (.int most), x5, x6, x7, x8, some (.int sh), some (.ref fo), some (.int (i : Int)), some (.int (b : Int)), some (.int mixed)] = [some (.ref a), some (.int (n : Int)), some (.ref tu), some (.ref td), some (.int most), x5, x6, x7, x8, some (.int sh), some (.ref fo), some (.int (i : Int)), x12', x13'] ∧ Ex H4 H5 ∧ TL H5 fo ties' ∧ TOk n ties' ∧ (∀ x y, (x, y) ∈ ties' → x < i ∨ (x = i ∧ y < i + 1 + (j + 1))) ∧ ties'.length ≤ 8 * i + (j + 1) :=
            ⟨_, _, ties, rfl, e7, hL5, hO5, fun x y h => (hlt5 x y h).imp id (fun q => ⟨q.1, by omega⟩), by omega⟩
          have yes : ∀ tp, H5 tp = none → ∃ xs, H5 fo = some (.lst xs) ∧ xs.length ≤ 100 ∧ ∃ (x12' x13' : Option V) (ties' : Ties), [some (V.ref a), some (.int (n : Int)), some (.ref tu), some (.ref td), some (.int most), x5, x6, x7, x8, some (.int sh), some (.ref fo), some (.int (i : Int)), some (.int (b : Int)), some (.int mixed)] = [some (.ref a), some (.int (n : Int)), some (.ref tu), some (.ref td), some (.int most), x5, x6, x7, x8, some (.int sh), some (.ref fo), some (.int (i : Int)), x12', x13'] ∧ Ex H4 (upd (upd H5 tp (.tup [.int (i : Int), .int (b : Int)])) fo (.lst (xs ++ [.ref tp]))) ∧ TL (upd (upd H5 tp (.tup [.int (i : Int), .int (b : Int)])) fo (.lst (xs ++ [.ref tp]))) fo ties' ∧ TOk n ties' ∧ (∀ x y, (x, y) ∈ ties' → x < i ∨ (x = i ∧ y < i + 1 + (j + 1))) ∧ ties'.length ≤ 8 * i + (j + 1) := by
            intro tp ntp
            have e8 : Ex H5 (upd H5 tp (.tup [.int (i : Int), .int (b : Int)])) := Evl.Ex.new ntp
            obtain ⟨gg, k1, k2⟩ := id hL5
            obtain ⟨xs, hxs, hxl, hTL⟩ := hL5.snoc e8 (e8 _ _ k1) upd_same
            refine ⟨xs, hxs, by omega, _, _, ties ++ [(i, b)], rfl, Evl.Ex.mut (e7.trans e8) nfo, hTL, hO5.snoc (fun z => ?_) hib hbn, fun x y h => ?_, by rw [List.length_append, List.length_singleton]; omega⟩
            · rcases hlt5 i b z with q | q
              · omega
              · omega
            · rcases List.mem_append.1 h with q | q
              · exact (hlt5 x y q).imp id (fun q => ⟨q.1, by omega⟩)
              · rw [List.mem_singleton] at q
                cases q
                exact .inr ⟨rfl, by omega⟩
          -- if tied[a][b] or mixed // 7 % 6 < share
          refine ⟨.ref td, rfl, .int (i : Int), rfl, td, _, (i : Int), .ref (g i), rfl, rfl, .inl (.inl g1), atI_nat (range_get hi), .int (b : Int), rfl, g i, _, (b : Int), .bl (t i b), rfl, rfl, .inl (.inl hti), atI_nat (range_get hbn), t i b, rfl, ite2 (fun c => iteT ?_) (fun c => ?_)⟩
          · refine ⟨.ref fo, rfl, ?_⟩
            obtain ⟨gg, k1, k2⟩ := id hL5
            refine ⟨.inl ⟨rfl, _, .inl (.inl k1)⟩, .int (i : Int), rfl, .int (b : Int), rfl, sz (by show 2 ≤ 100000; omega), fun tp ntp => ?_⟩
            obtain ⟨xs, hxs, hxl, hrest⟩ := yes tp ntp
            exact ⟨fo, xs, .ref tp, rfl, rfl, Evl.Ex.new ntp _ _ hxs, sz' (by omega), hrest⟩
          · refine ⟨.int mixed, rfl, mixed, 7, rfl, rfl, ⟨by omega, by omega⟩, _, 6, rfl, rfl, by omega, .int sh, rfl, _, sh, rfl, rfl, _, rfl, ite2 (fun c2 => ?_) (fun c2 => ?_)⟩
            · refine ⟨.ref fo, rfl, ?_⟩
              obtain ⟨gg, k1, k2⟩ := id hL5
              refine ⟨.inl ⟨rfl, _, .inl (.inl k1)⟩, .int (i : Int), rfl, .int (b : Int), rfl, sz (by show 2 ≤ 100000; omega), fun tp ntp => ?_⟩
              obtain ⟨xs, hxs, hxl, hrest⟩ := yes tp ntp
              exact ⟨fo, xs, .ref tp, rfl, rfl, Evl.Ex.new ntp _ _ hxs, sz' (by omega), hrest⟩
            · exact no
        · rintro σ H5 ⟨x12, x13, ties, rfl, e7, hL5, hO5, hlt5, hlen5⟩
          refine ⟨_, _, _, ties, rfl, e7, hL5, hO5, fun x y h => ?_, by omega⟩
          have := hO5.lt x y h
          rcases hlt5 x y h with q | q <;> omega
      · rintro σ H5 ⟨x11, x12, x13, ties, rfl, e7, hL5, hO5, hlt5, hlen5⟩
        exact ⟨.ref fo, rfl, q fo H5 ties nfo0 ((e1.trans e14).trans e7) hL5 hO5 (by omega)⟩
end
end Bw
/-! ### D_law_heaps -/
namespace Bw
open PySem PySem.Spec PyProof.Rows L2
section
variable {P : Program} {w : World} {K : PySem.W.Frag} {mg : Str → Option Value} {base : Heap}
def sp_law_heaps : Sp := fun vs H Q _ => ∃ (tl : Addr) (n : Nat) (ties : Ties), vs = [.int (n : Int), .ref tl] ∧ TL H tl ties ∧ TOk n ties ∧ n ≤ 7 ∧ ∀ H', Ex H H' → Q (.int (heaps n (marks ties) : Nat)) H'
theorem ok_law_heaps (L_law_heaps : Df K mg "_law_heaps" s_law_heaps P_law_heaps) (B : Bi mg) : FnOk P w K mg base CX0 1 L_law_heaps.f L_law_heaps.fd P_law_heaps sp_law_heaps := by
  refine L_law_heaps.F.ok sc_law_heaps (fun vs H Q E h => ?_) (fun cdv A outer s H vs Q E hr h => ?_)
  · obtain ⟨tl, n, ties, rfl, _⟩ := h
    rfl
  · obtain ⟨tl, n, ties, rfl, ⟨g, g1, g2⟩, ok, hn, q⟩ := h
    refine ⟨_, (pss_cons (ps_set (i := 2) sc_law_heaps.nd rfl (Or.inl rfl) (pe_listRg rfl (by rfl) B.list_ (prg_1 (by rfl) B.range_ (pv 0))))
 (pss_cons (ps_for PassesOwn.never rfl (pi_range1 (by rfl) B.range_ (pa_cons (pv 0) pa_nil)) (pg_name (i := 3) sc_law_heaps.nd rfl (Or.inl rfl)) (pss_one (ps_for PassesOwn.never rfl (pi_list (pv 1)) (pg_tup rfl (pgs_cons (pg_name (i := 4) sc_law_heaps.nd rfl (Or.inl rfl)) (pgs_cons (pg_name (i := 5) sc_law_heaps.nd rfl (Or.inl rfl)) pgs_nil))) (pss_cons (ps_set (i := 6) sc_law_heaps.nd rfl (Or.inl rfl) (pe_callB (call_min2 rfl) (by rfl) B.min_ (by decide +kernel) (pa_cons (pe_ix (kIxL (K := K)) (pv 2) (pv 4) (fun _ _ => rfl)) (pa_cons (pe_ix (kIxL (K := K)) (pv 2) (pv 5) (fun _ _ => rfl)) pa_nil))))
 (pss_cons (ps_asg (pv 6) (pg_sub (pv 2) (pv 4) set_list))
 (pss_one (ps_asg (pv 6) (pg_sub (pv 2) (pv 5) set_list))))))))
 (pss_one (ps_ret (pe_lenSetN (by rfl) B.len_ (by rfl) B.set_ (pv 2)))))), ?_⟩
    have hlt : ∀ a b, (a, b) ∈ ties → a < n ∧ b < n := fun a b h => by have := ok.lt a b h; omega
    -- least = list(range(n))
    refine ⟨.int (n : Int), rfl, (n : Int), rfl, RgOk.of_le (by omega) (by omega) (by omega) (by omega), fun o no => ?_⟩
    rw [rgV_vN]
    have h0 : NA (upd H o (.lst (vN (List.range n)))) o n (rounds ties 0) := upd_same
    have e1 : Ex H (upd H o (.lst (vN (List.range n)))) := Evl.Ex.new no
    generalize upd H o (.lst (vN (List.range n))) = H1 at h0 e1 ⊢
    -- for k in range(n)
    refine ⟨.int (n : Int), rfl, (n : Int), rfl, by omega, by omega, ?_⟩
    rw [Int.toNat_natCast]
    refine for_range (lo := 0) (n := n) (fun i σ H' => ∃ (x3 x4 x5 x6 : Option V), σ = [some (.int (n : Int)), some (.ref tl), some (.ref o), x3, x4, x5, x6] ∧ Ex H H' ∧ NA H' o n (rounds ties i)) ?_ ?_ ?_
    · exact ⟨none, none, none, none, rfl, e1, h0⟩
    · rintro i σ H' hi ⟨x3, x4, x5, x6, rfl, e, hN⟩
      -- for a, b in ties
      refine ⟨.ref tl, rfl, tl, rfl, ⟨_, .inl (.inl (e _ _ g1))⟩, ?_⟩
      refine for_list (xs := (List.range ties.length).map fun i => V.ref (g i)) (fun j σ H2 => ∃ (x3 x4 x5 x6 : Option V), σ = [some (.int (n : Int)), some (.ref tl), some (.ref o), x3, x4, x5, x6] ∧ Ex H H2 ∧ NA H2 o n ((ties.take j).foldl stepR (rounds ties i))) ?_ ?_ ?_ ?_
      · exact ⟨_, _, _, _, rfl, e, hN⟩
      · rintro j σ H2 _ ⟨x3, x4, x5, x6, rfl, e2, _⟩
        exact .inl (.inl (e2 _ _ g1))
      · rintro j x σ H2 hj ⟨x3, x4, x5, x6, rfl, e2, hN2⟩
        have hjl : j < ties.length := by have := (List.getElem?_eq_some_iff.1 hj).1; simpa using this
        rw [range_get hjl] at hj
        cases hj
        obtain ⟨⟨a, b⟩, ht⟩ : ∃ p, ties[j] = p := ⟨_, rfl⟩
        have hget : ties[j]? = some (a, b) := by rw [List.getElem?_eq_getElem hjl, ht]
        have hab := ok.lt a b (List.mem_of_getElem? hget)
        have han : a < n := by omega
        have hbn : b < n := hab.2
        generalize hl : (ties.take j).foldl stepR (rounds ties i) = l at hN2
        have hnext : (ties.take (j + 1)).foldl stepR (rounds ties i) = stepR l (a, b) := by
          rw [take_snoc hget, List.foldl_append, hl]
          rfl
        rw [hnext]
        refine ⟨g j, _, rfl, .inl (.inl (e2 _ _ (g2 j a b hget))), rfl, .int (a : Int), _, rfl, .int (b : Int), [], rfl, rfl, ?_⟩
        -- low = min(least[a], least[b])
        refine ⟨.ref o, rfl, .int (a : Int), rfl, o, _, (a : Int), .int (l a : Int), rfl, rfl, .inl (.inl hN2), atI_nat (range_get han), .ref o, rfl, .int (b : Int), rfl, o, _, (b : Int), .int (l b : Int), rfl, rfl, .inl (.inl hN2), atI_nat (range_get hbn), (l a : Int), (l b : Int), rfl, ?_⟩
        rw [min_nat]
        -- least[a] = low; least[b] = low
        refine ⟨.int (min (l a) (l b) : Nat), rfl, .ref o, rfl, .int (a : Int), rfl, o, _, (a : Int), a, rfl, rfl, hN2, Evl.ixN_nat (by simpa using han), ?_⟩
        rw [range_set han]
        refine ⟨.int (min (l a) (l b) : Nat), rfl, .ref o, rfl, .int (b : Int), rfl, o, _, (b : Int), b, rfl, rfl, upd_same, Evl.ixN_nat (by simpa using hbn), ?_⟩
        rw [range_set hbn]
        refine ⟨_, _, _, _, rfl, Evl.Ex.mut (Evl.Ex.mut e2 no) no, ?_⟩
        unfold NA
        rw [upd_same]
        congr 3
        funext z
        unfold stepR
        by_cases c1 : z = b
        · simp only [if_pos c1, if_pos (Or.inr c1 : z = a ∨ z = b)]
        · by_cases c2 : z = a
          · simp only [if_neg c1, if_pos c2, if_pos (Or.inl c2 : z = a ∨ z = b)]
          · simp only [if_neg c1, if_neg c2, if_neg (not_or.2 ⟨c2, c1⟩ : ¬ (z = a ∨ z = b))]
      · rintro σ H2 ⟨x3, x4, x5, x6, rfl, e2, hN2⟩
        have : ((List.range ties.length).map fun i => V.ref (g i)).length = ties.length := by simp
        rw [this, List.take_length] at hN2
        exact ⟨_, _, _, _, rfl, e2, hN2⟩
    · rintro σ H' ⟨x3, x4, x5, x6, rfl, e, hN⟩
      have hints : (List.range n).map (fun x => V.int (rounds ties n x : Int)) = ((List.range n).map fun x => (rounds ties n x : Int)).map V.int := by
        rw [List.map_map]; rfl
      refine ⟨.ref o, rfl, o, (List.range n).map (fun x => (rounds ties n x : Int)), rfl, ?_, by rw [List.length_map, List.length_range]; omega, fun out ond omem => ?_⟩
      · rw [← hints]
        exact .inl (.inl hN)
      · rw [heaps_count hlt ond omem]
        exact q H' e
end
end Bw
/-! ### D_law_ring -/
namespace Bw
open PySem PySem.Spec PyProof.Rows L2
/-! ### ties as data -/
def tieD (t : Nat × Nat) : PyData := .tuple [.int (t.1 : Int), .int (t.2 : Int)]
def tiesD (ties : Ties) : List PyData := ties.map tieD
theorem tieD_eqv (s t : Nat × Nat) : PyData.eqv (tieD s) (tieD t) = decide (s = t) := by
  obtain ⟨a, b⟩ := s
  obtain ⟨c, d⟩ := t
  simp only [tieD, PyData.eqv, PyData.eqvAll, Bool.and_true]
  rw [Bool.eq_iff_iff]
  simp only [Bool.and_eq_true, beq_iff_eq, decide_eq_true_eq, Prod.mk.injEq]
  omega
theorem tiesD_any (ties : Ties) (t : Nat × Nat) : ((tiesD ties).any fun z => PyData.eqv z (tieD t)) = decide (t ∈ ties) := by
  rw [Bool.eq_iff_iff, List.any_eq_true, decide_eq_true_eq]
  constructor
  · rintro ⟨z, hz, e⟩
    obtain ⟨s, hs, rfl⟩ := List.mem_map.1 hz
    rw [tieD_eqv, decide_eq_true_eq] at e
    rw [← e]; exact hs
  · intro h
    exact ⟨tieD t, List.mem_map.2 ⟨t, h, rfl⟩, by rw [tieD_eqv]; exact decide_eq_true rfl⟩
theorem tiesD_lay : ∀ ties : Ties, PyData.canLayAll0 (tiesD ties) = true
  | [] => by simp only [tiesD, List.map_nil, PyData.canLayAll0]
  | t :: r => by
    have ih := tiesD_lay r
    simp only [tiesD, List.map_cons, PyData.canLayAll0, tieD, PyData.canLay0, Bool.and_true, Bool.true_and] at ih ⊢
    exact ih
theorem tiesD_depth : ∀ ties : Ties, PyData.depthAll (tiesD ties) ≤ 1
  | [] => by simp only [tiesD, List.map_nil, PyData.depthAll]; omega
  | t :: r => by
    have ih := tiesD_depth r
    simp only [tiesD, List.map_cons, PyData.depthAll, tieD, PyData.depth] at ih ⊢
    omega
theorem tieD_shaped (t : Nat × Nat) : SeqAt.shaped (tieD t) = true := by
  refine Bool.and_eq_true_iff.mpr ⟨?_, decide_eq_true ?_⟩
  · simp only [tieD, PyData.canLay0, PyData.canLayAll0, Bool.and_true]
  · simp only [tieD, PyData.depth, PyData.depthAll]
    decide
theorem tiesD_shaped (ties : Ties) : SeqAt.shaped (.list (tiesD ties)) = true := by
  have h := tiesD_depth ties
  refine Bool.and_eq_true_iff.mpr ⟨?_, decide_eq_true ?_⟩
  · simp only [PyData.canLay0, tiesD_lay]
  · simp only [PyData.depth]
    omega
theorem webD_shaped (n : Nat) (ties : Ties) : SeqAt.shaped (.tuple [.int (n : Int), .list (tiesD ties)]) = true := by
  have h := tiesD_depth ties
  refine Bool.and_eq_true_iff.mpr ⟨?_, decide_eq_true ?_⟩
  · simp only [PyData.canLay0, PyData.canLayAll0, tiesD_lay, Bool.and_true, Bool.true_and]
  · simp only [PyData.depth, PyData.depthAll]
    omega
theorem TL.dp {K : PySem.W.Frag} {H : Hp} {a : Addr} {ties : Ties} (h : TL H a ties) : Dp K H (.ref a) (.list (tiesD ties)) := by
  obtain ⟨g, h1, h2⟩ := h
  refine .lst (.inl (.inl h1)) ?_
  have key : ∀ (ties : Ties) (k : Nat), (∀ (i x y : Nat), ties[i]? = some (x, y) → H (g (k + i)) = some (.tup [.int (x : Int), .int (y : Int)])) → DpAll K H ((List.range ties.length).map fun i => V.ref (g (k + i))) (tiesD ties) := by
    intro ties
    induction ties with
    | nil => intro k _; exact .nil
    | cons t r ih =>
      intro k hk
      rw [List.length_cons, List.range_succ_eq_map, List.map_cons, List.map_map]
      refine .cons (.tup (.inl (.inl (hk 0 t.1 t.2 rfl))) (.cons (.int _) (.cons (.int _) .nil))) ?_
      have := ih (k + 1) fun i x y hi => by
        have := hk (i + 1) x y (by simpa using hi)
        rw [show k + 1 + i = k + (i + 1) by omega]
        exact this
      have e : ((fun i => V.ref (g (k + i))) ∘ Nat.succ) = fun i => V.ref (g (k + 1 + i)) := by
        funext i
        show V.ref (g (k + (i + 1))) = _
        rw [show k + 1 + i = k + (i + 1) by omega]
      rw [e]
      exact this
  have := key ties 0 fun i x y hi => by rw [Nat.zero_add]; exact h2 i x y hi
  simpa using this
section
variable {P : Program} {w : World} {K : PySem.W.Frag} {mg : Str → Option Value} {base : Heap}
def sp_law_ring : Sp := fun vs H Q _ => ∃ (r tl : Addr) (n : Nat) (R : List Nat) (ties : Ties), vs = [.ref r, .ref tl] ∧ LN H r R ∧ TL H tl ties ∧ IsRing n (adjT ties) R ∧ n ≤ 7 ∧ TOk n ties ∧ ∀ H', Ex H H' → Q (.bl true) H'
theorem ok_law_ring (L_law_ring : Df K mg "_law_ring" s_law_ring P_law_ring) (B : Bi mg) : FnOk P w K mg base CX0 2 L_law_ring.f L_law_ring.fd P_law_ring sp_law_ring := by
  refine L_law_ring.F.ok sc_law_ring (fun vs H Q E h => ?_) (fun cdv A outer s H vs Q E hr h => ?_)
  · obtain ⟨r, tl, n, R, ties, rfl, _⟩ := h
    rfl
  · obtain ⟨r, tl, n, R, ties, rfl, hR, hT, hI, hn, ok, q⟩ := h
    refine ⟨_, (pss_cons (ps_if (PW.pt (pw_or (pt_not (pt_val (pe_callB call_isi (by rfl) B.isinstance_ (by decide +kernel) (pa_cons (pv 0) (pa_cons (pe_bltn (v := .ty "list") (by rfl) B.list_ PyProof.Rows.boot_list rfl) pa_nil))))) (pw_or (pt_cmpR op_lt (pe_callB (kLen (K := K)) (by rfl) B.len_ PySem.boot_len (pa_cons (pv 0) pa_nil)) pe_int (nomark _)) (pw_or1 (pt_cmpR op_ne (pe_lenSetN (by rfl) B.len_ (by rfl) B.set_ (pv 0)) (pe_callB (kLen (K := K)) (by rfl) B.len_ PySem.boot_len (pa_cons (pv 0) pa_nil)) (nomark _)))))) (pss_one (ps_ret pe_bl)) pss_nil)
 (pss_cons (ps_for PassesOwn.never rfl (pi_range1 (by rfl) B.range_ (pa_cons (pe_callB (kLen (K := K)) (by rfl) B.len_ PySem.boot_len (pa_cons (pv 0) pa_nil)) pa_nil)) (pg_name (i := 2) sc_law_ring.nd rfl (Or.inl rfl)) (pss_one (ps_if (pt_cmpR (op_notInD (Room.u65 hr)) (pe_tup (pa_cons (pe_callB (call_min2 rfl) (by rfl) B.min_ (by decide +kernel) (pa_cons (pe_ix (kIxL (K := K)) (pv 0) (pv 2) (fun _ _ => rfl)) (pa_cons (pe_ix (kIxL (K := K)) (pv 0) (pe_op op_sub (pv 2) pe_int) (fun _ _ => rfl)) pa_nil))) (pa_cons (pe_callB (call_max2 rfl) (by rfl) B.max_ (by decide +kernel) (pa_cons (pe_ix (kIxL (K := K)) (pv 0) (pv 2) (fun _ _ => rfl)) (pa_cons (pe_ix (kIxL (K := K)) (pv 0) (pe_op op_sub (pv 2) pe_int) (fun _ _ => rfl)) pa_nil))) pa_nil))) (pv 1) (by rfl)) (pss_one (ps_ret pe_bl)) pss_nil)))
 (pss_one (ps_ret pe_bl)))), ?_⟩
    have hlen := hI.len
    have hRn : R.length ≤ n := by
      have := nodup_sub_length hI.nd (m := List.range n) fun x hx => List.mem_range.2 (hI.lt x hx)
      rwa [List.length_range] at this
    have hRi : SqL K H r ((R.map fun x : Nat => (x : Int)).map V.int) := by rw [← vN_eq]; exact hR.seq
    -- not one of the three tests
    refine ⟨.ref r, rfl, .ref r, .ty "list", .type "list", .type "list", true, rfl, .ty "list", .base (.lst hR), if_pos (beq_self_eq_true _), true, rfl, iteF ?_⟩
    refine ⟨.ref r, rfl, r, vN R, rfl, .inl hR.seq, ((vN R).length : Int), 3, rfl, rfl, _, rfl, iteN (fun c => ?_) ?_⟩
    · have := of_decide_eq_true c
      rw [vN_len] at this
      omega
    refine ⟨.ref r, rfl, r, R.map (fun x : Nat => (x : Int)), rfl, hRi, by rw [List.length_map]; omega, fun out ond omem => ?_⟩
    have hol : out.length = R.length := by
      have nd2 : (R.map fun x : Nat => (x : Int)).Nodup := by
        rw [List.nodup_iff_pairwise_ne, List.pairwise_map]
        exact List.Pairwise.imp (fun {a b} h e => h (Int.ofNat.inj (show (a : Int) = (b : Int) from e))) (List.nodup_iff_pairwise_ne.1 hI.nd)
      have l1 := nodup_sub_len ond fun z hz => (omem z).1 hz
      have l2 := nodup_sub_len nd2 fun z hz => (omem z).2 hz
      rw [List.length_map] at l1 l2
      omega
    refine ⟨.ref r, rfl, r, vN R, rfl, .inl hR.seq, rfl, _, rfl, iteN (fun c => ?_) ?_⟩
    · have e : decide (V.int (out.length : Int) = V.int ((vN R).length : Int)) = true := decide_eq_true (by rw [vN_len, hol])
      rw [e] at c
      cases c
    -- for k in range(len(R))
    refine ⟨.ref r, rfl, r, vN R, rfl, .inl hR.seq, ((vN R).length : Int), rfl, by omega, by rw [vN_len]; omega, ?_⟩
    have hcnt : (((vN R).length : Int)).toNat = R.length := by rw [vN_len]; omega
    rw [hcnt]
    refine for_range (lo := 0) (n := R.length) (fun i σ H' => ∃ x2, σ = [some (.ref r), some (.ref tl), x2] ∧ Ex H H') ?_ ?_ ?_
    · exact ⟨none, rfl, Evl.Ex.refl H⟩
    · rintro i σ H' hi ⟨x2, rfl, e⟩
      have z0 : (0 : Int) + (i : Int) = (i : Int) := Int.zero_add _
      rw [z0]
      have hRe := hR.ex e
      have hx : R[i]? = some R[i] := List.getElem?_eq_getElem hi
      -- the one ahead of it
      obtain ⟨y, hy, hadj⟩ : ∃ y : Nat, atI (vN R) ((i : Int) - 1) = some (.int (y : Int)) ∧ adjT ties R[i] y = true := by
        by_cases c : i = 0
        · subst c
          have hl : R[R.length - 1]? = some R[R.length - 1] := List.getElem?_eq_getElem (by omega)
          refine ⟨R[R.length - 1], ?_, hI.close _ _ hx hl⟩
          have e1 : vN R = (vN R).dropLast ++ [V.int (R[R.length - 1] : Int)] := by
            have hne : vN R ≠ [] := fun z => by
              have := congrArg List.length z
              rw [vN_len] at this
              simp at this
              rw [this] at hlen
              simp at hlen
            conv => lhs; rw [← List.dropLast_concat_getLast hne]
            congr 2
            have h1 := List.getLast?_eq_getLast hne
            rw [List.getLast?_eq_getElem?, vN_len, vN_get hl] at h1
            exact (Option.some.inj h1).symm
          rw [e1]
          exact atI_last _ _
        · have hl : R[i - 1]? = some R[i - 1] := List.getElem?_eq_getElem (by omega)
          have e1 : (i : Int) - 1 = ((i - 1 : Nat) : Int) := by omega
          refine ⟨R[i - 1], by rw [e1]; exact atI_nat (vN_get hl), ?_⟩
          rw [adjT_sym]
          exact hI.next (i - 1) _ _ hl (by rw [show i - 1 + 1 = i by omega]; exact hx)
      have hmem : (min R[i] y, max R[i] y) ∈ ties := by
        rw [adjT_iff] at hadj
        rcases hadj with h | h
        · have := ok.lt _ _ h
          rw [show min R[i] y = R[i] by omega, show max R[i] y = y by omega]
          exact h
        · have := ok.lt _ _ h
          rw [show min R[i] y = y by omega, show max R[i] y = R[i] by omega]
          exact h
      refine ⟨.ref r, rfl, .int (i : Int), rfl, r, vN R, (i : Int), .int (R[i] : Int), rfl, rfl, hRe.seq, atI_nat (vN_get hx), .ref r, rfl, .int (i : Int), rfl, (i : Int), 1, rfl, rfl, r, vN R, _, .int (y : Int), rfl, rfl, hRe.seq, hy, (R[i] : Int), (y : Int), rfl,
        .ref r, rfl, .int (i : Int), rfl, r, vN R, (i : Int), .int (R[i] : Int), rfl, rfl, hRe.seq, atI_nat (vN_get hx), .ref r, rfl, .int (i : Int), rfl, (i : Int), 1, rfl, rfl, r, vN R, _, .int (y : Int), rfl, rfl, hRe.seq, hy, (R[i] : Int), (y : Int), rfl,
        sz (by show 2 ≤ 100000; omega), fun tp ntp => ?_⟩
      rw [min_nat, max_nat]
      have e2 : Ex H' (upd H' tp (.tup [.int ((min R[i] y : Nat) : Int), .int ((max R[i] y : Nat) : Int)])) := Evl.Ex.new ntp
      refine ⟨.ref tl, rfl, tieD (min R[i] y, max R[i] y), tiesD ties, .tup (.inl (.inl upd_same)) (.cons (.int _) (.cons (.int _) .nil)), (hT.ex (e.trans e2)).dp, tieD_shaped _, tiesD_shaped ties, _, rfl, iteN (fun c => ?_) ?_⟩
      · rw [tiesD_any, decide_eq_true hmem] at c
        cases c
      · exact ⟨_, rfl, e.trans e2⟩
    · rintro σ H' ⟨x2, rfl, e⟩
      exact q H' e
end
end Bw
/-! ### D_law -/
namespace Bw
open PySem PySem.Spec PyProof.Rows L2
theorem webD_same (n : Nat) (ties : Ties) : PyData.eqv (.tuple [.int (n : Int), .list (tiesD ties)]) (.tuple [.int (n : Int), .list (tiesD ties)]) = true := by
  refine SeqAt.eqv_refl _ ?_
  simp only [PyData.canLay0, PyData.canLayAll0, tiesD_lay, Bool.and_true, Bool.true_and]
section
variable {P : Program} {w : World} {K : PySem.W.Frag} {mg : Str → Option Value} {base : Heap}
def sp_law (K : PySem.W.Frag) : Sp := fun vs H Q _ => ∃ (a : Addr) (ns : List Int), vs = [.ref a] ∧ SqL K H a (ns.map V.int) ∧ ns.length ≤ 63 ∧ ∀ H', Q (.bl true) H'
theorem ok_law (L_law : Df K mg "law" s_law P_law) (L_law_cell : Df K mg "_law_cell" s_law_cell P_law_cell) (L_law_turned : Df K mg "_law_turned" s_law_turned P_law_turned) (L_law_ties : Df K mg "_law_ties" s_law_ties P_law_ties) (L_law_heaps : Df K mg "_law_heaps" s_law_heaps P_law_heaps) (L_law_ring : Df K mg "_law_ring" s_law_ring P_law_ring)
    (L_least_width : Df K mg "least_width" s_least_width P_least_width) (L_costs : Df K mg "costs" s_costs P_costs) (L_arounds_of : Df K mg "arounds_of" s_arounds_of P_arounds_of) (L_sizes_of : Df K mg "sizes_of" s_sizes_of P_sizes_of) (L_piece_from : Df K mg "piece_from" s_piece_from P_piece_from) (L_members_of : Df K mg "members_of" s_members_of P_members_of) (L_rim_of : Df K mg "rim_of" s_rim_of P_rim_of)
    (L_wood : Df K mg "wood" s_wood P_wood) (L_pieces : Df K mg "pieces" s_pieces P_pieces) (L_piece_of : Df K mg "piece_of" s_piece_of P_piece_of) (L_around : Df K mg "around" s_around P_around) (L_ring_by : Df K mg "ring_by" s_ring_by P_ring_by) (L_way_up : Df K mg "way_up" s_way_up P_way_up)
    (L_folds : Df K mg "folds" s_folds P_folds) (L_fold_away : Df K mg "fold_away" s_fold_away P_fold_away) (L_four : Df K mg "four" s_four P_four) (L_one_fewer : Df K mg "one_fewer" s_one_fewer P_one_fewer) (L_drawn_together : Df K mg "drawn_together" s_drawn_together P_drawn_together) (L_take_up : Df K mg "take_up" s_take_up P_take_up)
    (L_joint : Df K mg "joint" s_joint P_joint) (L_less : Df K mg "less" s_less P_less) (B : Bi mg) : FnOk P w K mg base CX0 6 L_law.f L_law.fd P_law (sp_law K) := by
  have G_law_cell := ok_law_cell (P := P) (w := w) (base := base) L_law_cell B
  have G_law_ties := ok_law_ties (P := P) (w := w) (base := base) L_law_ties L_law_turned L_law_cell B
  have G_law_heaps := ok_law_heaps (P := P) (w := w) (K := K) (base := base) L_law_heaps B
  have G_law_ring := ok_law_ring (P := P) (w := w) (K := K) (base := base) L_law_ring B
  have G_least_width := ok_least_width (P := P) (w := w) (K := K) (base := base) L_least_width L_costs L_arounds_of L_sizes_of L_piece_from L_members_of L_rim_of B
  have G_wood := ok_wood (P := P) (w := w) (K := K) (base := base) L_wood L_pieces L_piece_of L_around L_ring_by L_way_up B
  have G_folds := ok_folds (P := P) (w := w) (K := K) (base := base) L_folds L_around L_fold_away L_less L_joint B
  have G_four := ok_four (P := P) (w := w) (K := K) (base := base) L_four L_around L_one_fewer L_drawn_together L_fold_away L_take_up L_joint L_less B
  refine L_law.F.ok sc_law (fun vs H Q E h => ?_) (fun cdv A outer s H vs Q E hr h => ?_)
  · obtain ⟨a, ns, rfl, _⟩ := h
    rfl
  · obtain ⟨a, ns, rfl, hs, hns, q⟩ := h
    refine ⟨_, (pss_cons (ps_set (i := 1) sc_law.nd rfl (Or.inl rfl) (pe_op op_mod (pe_call G_law_cell (hr.mono (by decide)) (by rfl) L_law_cell.g L_law_cell.F.kp L_law_cell.b .nil pass0 (pa_cons (pv 0) (pa_cons pe_int pa_nil))) pe_int))
 (Evl.pss_cut (ps_if (pt_cmpR op_eq (pe_op op_mod (pe_call G_law_cell (hr.mono (by decide)) (by rfl) L_law_cell.g L_law_cell.F.kp L_law_cell.b .nil pass0 (pa_cons (pv 0) (pa_cons pe_int pa_nil))) pe_int) pe_int (nomark _)) (pss_one (ps_set (i := 1) sc_law.nd rfl (Or.inl rfl) pe_int)) pss_nil)
 (pss_cons (ps_set (i := 2) sc_law.nd rfl (Or.inl rfl) (pe_call G_law_ties (hr.mono (by decide)) (by rfl) L_law_ties.g L_law_ties.F.kp L_law_ties.b .nil pass0 (pa_cons (pv 0) (pa_cons (pv 1) pa_nil))))
 (pss_cons (ps_set (i := 3) sc_law.nd rfl (Or.inl rfl) (pe_tup (pa_cons (pv 1) (pa_cons (pe_callTy (kList (K := K)) (by rfl) B.list_ PyProof.Rows.boot_list (pa_cons (pv 2) pa_nil)) pa_nil))))
 (pss_cons (ps_set (i := 4) sc_law.nd rfl (Or.inl rfl) (pe_call G_least_width (hr.mono (by decide)) (by rfl) L_least_width.g L_least_width.F.kp L_least_width.b .nil pass0 (pa_cons (pv 3) pa_nil)))
 (pss_cons (ps_if (PW.pt (pw_or (pt_not (pt_val (pe_callB call_isi (by rfl) B.isinstance_ (by decide +kernel) (pa_cons (pv 4) (pa_cons (pe_bltn (v := .ty "int") (by rfl) B.int_ PyProof.Rows.boot_int rfl) pa_nil))))) (pw_or (pt_val (pe_callB call_isi (by rfl) B.isinstance_ (by decide +kernel) (pa_cons (pv 4) (pa_cons (pe_bltn (v := .ty "bool") (by rfl) B.bool_ PyProof.Rows.boot_bool rfl) pa_nil)))) (pw_or1 (pt_cmpR (op_neD hr.units) (pv 3) (pe_tup (pa_cons (pv 1) (pa_cons (pv 2) pa_nil))) (nomark _)))))) (pss_one (ps_ret pe_bl)) pss_nil)
 (pss_cons (ps_set (i := 5) sc_law.nd rfl (Or.inl rfl) (pe_call G_wood (hr.mono (by decide)) (by rfl) L_wood.g L_wood.F.kp L_wood.b .nil pass0 (pa_cons (pv 3) pa_nil)))
 (pss_cons (ps_set (i := 6) sc_law.nd rfl (Or.inl rfl) (pe_cmpR op_eq (pe_ix (kIxT (K := K)) (pv 5) pe_int (fun _ _ => rfl)) pe_str (nomark _)))
 (Evl.pss_cut (ps_if (PW.pt (pw_and (pt_not (pt_val (pv 6))) (pw_and1 (pt_not (pt_val (pe_call G_law_ring (hr.mono (by decide)) (by rfl) L_law_ring.g L_law_ring.F.kp L_law_ring.b .nil pass0 (pa_cons (pe_ix (kIxT (K := K)) (pv 5) pe_int (fun _ _ => rfl)) (pa_cons (pv 2) pa_nil)))))))) (pss_one (ps_ret pe_bl)) pss_nil)
 (pss_cons (ps_if (PW.pt (pw_or (pt_cmpR op_ne (pv 6) (pe_cmpR op_le (pv 4) pe_int (nomark _)) (nomark _)) (pw_or1 (pt_cmpR op_ne (pv 6) (pe_cmpR op_eq (pe_callB (kLen (K := K)) (by rfl) B.len_ PySem.boot_len (pa_cons (pv 2) pa_nil)) (pe_op op_sub (pv 1) (pe_call G_law_heaps (hr.mono (by decide)) (by rfl) L_law_heaps.g L_law_heaps.F.kp L_law_heaps.b .nil pass0 (pa_cons (pv 1) (pa_cons (pv 2) pa_nil)))) (nomark _)) (nomark _))))) (pss_one (ps_ret pe_bl)) pss_nil)
 (pss_cons (ps_set (i := 7) sc_law.nd rfl (Or.inl rfl) (pe_cmpR op_eq (pe_callB (kLen (K := K)) (by rfl) B.len_ PySem.boot_len (pa_cons (pe_ix (kIxT (K := K)) (pe_call G_folds (hr.mono (by decide)) (by rfl) L_folds.g L_folds.F.kp L_folds.b .nil pass0 (pa_cons (pv 3) pa_nil)) pe_int (fun _ _ => rfl)) pa_nil)) pe_int (nomark _)))
 (pss_cons (ps_set (i := 8) sc_law.nd rfl (Or.inl rfl) (pe_call G_four (hr.mono (by decide)) (by rfl) L_four.g L_four.F.kp L_four.b .nil pass0 (pa_cons (pv 3) pa_nil)))
 (pss_one (ps_ret (pe_and (pe_cmpR op_eq (pv 7) (pe_cmpR op_le (pv 4) pe_int (nomark _)) (nomark _)) (pe_and (pe_cmpR op_eq (pe_cmpR op_isN (pv 8) pe_non (nomark _)) (pv 7) (nomark _)) (pe_one (pe_cmpR (op_eqD hr.units) (pv 3) (pe_tup (pa_cons (pv 1) (pa_cons (pv 2) pa_nil))) (nomark _))))))))))))))))))), ?_⟩
    -- n = cell(script, 0) % 7
    refine ⟨.ref a, rfl, a, ns, 0, rfl, hs, by omega, by omega, fun z0 => ⟨z0, 7, rfl, rfl, by omega, ?_⟩⟩
    have hz0 : 0 ≤ z0 % 7 := Int.emod_nonneg _ (by omega)
    have hz1 : z0 % 7 < 7 := Int.emod_lt_of_pos _ (by omega)
    obtain ⟨n0, hn0⟩ := Int.eq_ofNat_of_zero_le hz0
    dsimp only
    rw [hn0]
    refine ⟨fun σ H' => ∃ n : Nat, n ≤ 7 ∧ σ = [some (.ref a), some (.int (n : Int)), none, none, none, none, none, none, none] ∧ H' = H, ?_, ?_⟩
    · refine ⟨.ref a, rfl, a, ns, 22, rfl, hs, by omega, by omega, fun z22 => ⟨z22, 9, rfl, rfl, by omega, rfl, _, rfl, ite2 (fun _ => ?_) (fun _ => ?_)⟩⟩
      · exact ⟨7, by omega, rfl, rfl⟩
      · exact ⟨n0, by omega, rfl, rfl⟩
    rintro σ H' ⟨n, hn, rfl, rfl⟩
    -- ties_here, web, wide
    refine ⟨.ref a, rfl, .int (n : Int), rfl, a, ns, n, rfl, hs, hn, fun tl H1 ties ntl e1 htl ok hlen => ?_⟩
    have hsym := adjT_sym ties
    have hirr := ok.irr
    obtain ⟨g, g1, g2⟩ := id htl
    refine ⟨.int (n : Int), rfl, .ref tl, rfl, tl, _, rfl, .inl (.inl (.inl g1)), fun tc ntc => ?_⟩
    have e2 : Ex H1 (upd H1 tc (.lst ((List.range ties.length).map fun i => V.ref (g i)))) := Evl.Ex.new ntc
    have htc : TL (upd H1 tc (.lst ((List.range ties.length).map fun i => V.ref (g i)))) tc ties := ⟨g, upd_same, fun i x y h => e2 _ _ (g2 i x y h)⟩
    generalize upd H1 tc (.lst ((List.range ties.length).map fun i => V.ref (g i))) = H2 at e2 htc ⊢
    refine ⟨sz (by show 2 ≤ 100000; omega), fun wp nwp => ?_⟩
    have e3 : Ex H2 (upd H2 wp (.tup [.int (n : Int), .ref tc])) := Evl.Ex.new nwp
    have hweb : WebAt (upd H2 wp (.tup [.int (n : Int), .ref tc])) wp n ties := ⟨tc, upd_same, htc.ex e3⟩
    generalize upd H2 wp (.tup [.int (n : Int), .ref tc]) = H3 at e3 hweb ⊢
    have htl3 : TL H3 tl ties := htl.ex (e2.trans e3)
    refine ⟨.ref wp, rfl, wp, n, ties, rfl, hweb, hn, ok, fun c H4 e4 hc => ?_⟩
    have hweb4 := hweb.ex e4
    have htl4 := htl3.ex e4
    -- what the web is, as data
    have webD : ∀ {H' : Hp}, WebAt H' wp n ties → Dp K H' (.ref wp) (.tuple [.int (n : Int), .list (tiesD ties)]) := fun {H'} h => by
      obtain ⟨t0, k1, k2⟩ := h
      exact .tup (.inl (.inl k1)) (.cons (.int _) (.cons k2.dp .nil))
    -- isinstance, and the web is as it was
    refine ⟨.int c, rfl, .int c, .ty "int", .type "int", .type "int", true, rfl, .ty "int", .base (.int c), if_pos (beq_self_eq_true _), true, rfl, iteF ?_⟩
    refine ⟨.int c, rfl, .int c, .ty "bool", .type "int", .type "bool", false, rfl, .ty "bool", .base (.int c), kit_ty (by decide +kernel), false, rfl, iteF ?_⟩
    refine ⟨.ref wp, rfl, .int (n : Int), rfl, .ref tl, rfl, sz (by show 2 ≤ 100000; omega), fun tp ntp => ?_⟩
    have e5 : Ex H4 (upd H4 tp (.tup [.int (n : Int), .ref tl])) := Evl.Ex.new ntp
    refine ⟨_, _, webD (hweb4.ex e5), .tup (.inl (.inl upd_same)) (.cons (.int _) (.cons (htl4.ex e5).dp .nil)), webD_shaped n ties, webD_shaped n ties, _, rfl, iteN (fun k => ?_) ?_⟩
    · rw [webD_same] at k
      cases k
    have hweb5 := hweb4.ex e5
    have htl5 := htl4.ex e5
    generalize upd H4 tp (.tup [.int (n : Int), .ref tl]) = H5 at hweb5 htl5 e5 ⊢
    -- told = wood(web)
    refine ⟨.ref wp, rfl, wp, n, ties, rfl, hweb5, hn, ok, fun p H6 np e6 hor => ?_⟩
    obtain ⟨sm, v, r, hp, hv, hiff, hring⟩ : ∃ (sm : Bool) (v : Str) (r : Addr), H6 p = some (.tup [.str v, .ref r]) ∧ decide (V.str v = V.str "wood") = sm ∧ (sm = true ↔ El 1 (adjT ties) (List.range n)) ∧ (sm = false → ∃ R, LN H6 r R ∧ IsRing n (adjT ties) R) := by
      rcases hor with ⟨r, hp, hE⟩ | ⟨r, R, hp, hR, hI⟩
      · exact ⟨true, "wood", r, hp, decide_eq_true rfl, ⟨fun _ => hE, fun _ => rfl⟩, fun h => (by cases h)⟩
      · refine ⟨false, "ring", r, hp, by decide +kernel, ⟨fun h => (by cases h), fun h => ?_⟩, fun _ => ⟨R, hR, hI⟩⟩
        exact absurd ((El.iff_thin hsym hirr List.nodup_range).1 h) (hI.core hsym)
    have hweb6 := hweb5.ex e6
    have htl6 := htl5.ex e6
    -- smooth = told[0] == 'wood'
    refine ⟨.ref p, rfl, p, _, 0, .str v, rfl, rfl, .inl (.inl hp), atI_nat (j := 0) rfl, rfl, ?_⟩
    rw [hv]
    -- if not smooth and not ring(told[1], ties_here)
    refine ⟨fun σ H' => σ = [some (.ref a), some (.int (n : Int)), some (.ref tl), some (.ref wp), some (.int c), some (.ref p), some (.bl sm), none, none] ∧ Ex H6 H', ?_, ?_⟩
    · refine ⟨.bl sm, rfl, sm, rfl, ?_⟩
      cases sm with
      | true => exact iteF (iteF ⟨rfl, Evl.Ex.refl H6⟩)
      | false =>
        obtain ⟨R, hR, hI⟩ := hring rfl
        refine iteT ⟨.ref p, rfl, p, _, 1, .ref r, rfl, rfl, .inl (.inl hp), atI_nat (j := 1) rfl, .ref tl, rfl, r, tl, n, R, ties, rfl, hR, htl6, hI, hn, ok, fun H7 e7 => ⟨true, rfl, iteF ⟨rfl, e7⟩⟩⟩
    rintro σ H7 ⟨rfl, e7⟩
    have hweb7 := hweb6.ex e7
    have htl7 := htl6.ex e7
    obtain ⟨g', k1, k2⟩ := id htl7
    have hsm1 : sm = decide (c ≤ 1) := by
      rw [Bool.eq_iff_iff, decide_eq_true_eq, hiff]
      exact (hc 1).symm
    -- if smooth != (wide <= 1) or smooth != (len(ties_here) == n - heaps(n, ties_here))
    refine ⟨.bl sm, rfl, .int c, rfl, c, 1, rfl, rfl, rfl, _, rfl, iteN (fun k => ?_) ?_⟩
    · have k' : (!decide (V.bl sm = V.bl (decide (c ≤ 1)))) = true := k
      rw [decide_eq_true (congrArg V.bl hsm1)] at k'
      cases k'
    refine ⟨.bl sm, rfl, .ref tl, rfl, tl, _, rfl, .inl (.inl (.inl k1)), .int (n : Int), rfl, .int (n : Int), rfl, .ref tl, rfl, tl, n, ties, rfl, htl7, ok, hn, fun H8 e8 => ?_⟩
    have hsm2 : sm = decide (V.int (((List.range ties.length).map fun i => V.ref (g' i)).length : Int) = V.int ((n : Int) - (heaps n (marks ties) : Nat))) := by
      rw [Bool.eq_iff_iff, decide_eq_true_eq, hiff, ← wood_iff ok, List.length_map, List.length_range]
      have hle := heaps_le n (marks ties)
      constructor
      · intro h
        congr 1
        omega
      · intro h
        have := V.int.inj h
        omega
    refine ⟨(n : Int), _, rfl, rfl, rfl, rfl, _, rfl, iteN (fun k => ?_) ?_⟩
    · have k' : (!decide (V.bl sm = V.bl (decide (V.int (((List.range ties.length).map fun i => V.ref (g' i)).length : Int) = V.int ((n : Int) - (heaps n (marks ties) : Nat)))))) = true := k
      rw [decide_eq_true (congrArg V.bl hsm2)] at k'
      cases k'
    have hweb8 := hweb7.ex e8
    have htl8 := htl7.ex e8
    -- none = len(folds(web)[1]) == 0
    refine ⟨.ref wp, rfl, wp, n, ties, rfl, hweb8, hn, ok, fun t st r2 H9 S' nt e9 ht hr2 hS => ?_⟩
    refine ⟨t, _, 1, .ref r2, rfl, rfl, .inl (.inl ht), atI_nat (j := 1) rfl, r2, vN S', rfl, .inl hr2.seq, rfl, ?_⟩
    have hnn : decide (V.int ((vN S').length : Int) = V.int 0) = decide (c ≤ 2) := by
      rw [Bool.eq_iff_iff, decide_eq_true_eq, decide_eq_true_eq, vN_len]
      rw [show (2 : Int) = ((2 : Nat) : Int) from rfl, hc 2, ← hS]
      constructor
      · intro h
        have := V.int.inj h
        exact List.length_eq_zero_iff.1 (by omega)
      · intro h
        rw [h]; rfl
    rw [hnn]
    have hweb9 := hweb8.ex e9
    have htl9 := htl8.ex e9
    -- found = four(web)
    refine ⟨.ref wp, rfl, wp, n, ties, rfl, hweb9, hn, ok, fun fv H10 e10 hfv => ?_⟩
    have hweb10 := hweb9.ex e10
    have htl10 := htl9.ex e10
    have hff : decide (fv = V.non) = decide (c ≤ 2) := by
      rw [Bool.eq_iff_iff, decide_eq_true_eq, decide_eq_true_eq]
      rw [show (2 : Int) = ((2 : Nat) : Int) from rfl, hc 2]
      rcases hfv with ⟨h1, h2⟩ | ⟨⟨p2, h1⟩, h2⟩
      · exact ⟨fun _ => h2, fun _ => h1⟩
      · rw [h1]
        exact ⟨fun h => (by cases h), fun h => absurd h h2⟩
    -- return none == (wide <= 2) and (found is None) == none and web == (n, ties_here)
    refine ⟨.bl (decide (c ≤ 2)), rfl, .int c, rfl, c, 2, rfl, rfl, rfl, true, by rw [decide_eq_true rfl], iteT ?_⟩
    refine ⟨fv, rfl, rfl, .bl (decide (c ≤ 2)), rfl, rfl, true, by rw [hff, decide_eq_true rfl], iteT ?_⟩
    refine ⟨.ref wp, rfl, .int (n : Int), rfl, .ref tl, rfl, sz (by show 2 ≤ 100000; omega), fun tp2 ntp2 => ?_⟩
    have e11 : Ex H10 (upd H10 tp2 (.tup [.int (n : Int), .ref tl])) := Evl.Ex.new ntp2
    refine ⟨_, _, webD (hweb10.ex e11), .tup (.inl (.inl upd_same)) (.cons (.int _) (.cons (htl10.ex e11).dp .nil)), webD_shaped n ties, webD_shaped n ties, ?_⟩
    rw [webD_same]
    exact q _
end
end Bw
/-! ### what the top has written; the law -/
namespace Bw
open PySem PySem.Spec PyProof.Rows L2
theorem all_mk {l : PySem.W.OpenLaw} {w : World} {K : PySem.W.Frag} {h : Heap} {mg : Str → Option Value} {fa : Addr} (X : K.In h) (G : h.Ns mainGlobals mg) (hfa : mg "law" = some (.ref fa))
    {f0 : Addr} {od0 an0 : Option Addr} {sl0 : Array (Option Value)} {oc0 kV0 dc0 pm0 cd0 ct0 : Value}
    (a0 : PySem.W.nsIn K mainGlobals "law" = some (some (.ref f0))) (l0 : K.lookup f0 = some ⟨oc0, od0, .func (PySem.W.fnOf "law" "law" (defArgs s_law) (defBody s_law) (defScope s_law) .none kV0 dc0 pm0 an0 cd0 ct0), sl0⟩) (c0 : PySem.W.codeIn K cd0 "law" = true) (k0 : PySem.W.keepIn K (.ref f0) = true)
    {f1 : Addr} {od1 an1 : Option Addr} {sl1 : Array (Option Value)} {oc1 kV1 dc1 pm1 cd1 ct1 : Value}
    (a1 : PySem.W.nsIn K mainGlobals "_law_cell" = some (some (.ref f1))) (l1 : K.lookup f1 = some ⟨oc1, od1, .func (PySem.W.fnOf "_law_cell" "_law_cell" (defArgs s_law_cell) (defBody s_law_cell) (defScope s_law_cell) .none kV1 dc1 pm1 an1 cd1 ct1), sl1⟩) (c1 : PySem.W.codeIn K cd1 "_law_cell" = true) (k1 : PySem.W.keepIn K (.ref f1) = true)
    {f2 : Addr} {od2 an2 : Option Addr} {sl2 : Array (Option Value)} {oc2 kV2 dc2 pm2 cd2 ct2 : Value}
    (a2 : PySem.W.nsIn K mainGlobals "_law_turned" = some (some (.ref f2))) (l2 : K.lookup f2 = some ⟨oc2, od2, .func (PySem.W.fnOf "_law_turned" "_law_turned" (defArgs s_law_turned) (defBody s_law_turned) (defScope s_law_turned) .none kV2 dc2 pm2 an2 cd2 ct2), sl2⟩) (c2 : PySem.W.codeIn K cd2 "_law_turned" = true) (k2 : PySem.W.keepIn K (.ref f2) = true)
    {f3 : Addr} {od3 an3 : Option Addr} {sl3 : Array (Option Value)} {oc3 kV3 dc3 pm3 cd3 ct3 : Value}
    (a3 : PySem.W.nsIn K mainGlobals "_law_ties" = some (some (.ref f3))) (l3 : K.lookup f3 = some ⟨oc3, od3, .func (PySem.W.fnOf "_law_ties" "_law_ties" (defArgs s_law_ties) (defBody s_law_ties) (defScope s_law_ties) .none kV3 dc3 pm3 an3 cd3 ct3), sl3⟩) (c3 : PySem.W.codeIn K cd3 "_law_ties" = true) (k3 : PySem.W.keepIn K (.ref f3) = true)
    {f4 : Addr} {od4 an4 : Option Addr} {sl4 : Array (Option Value)} {oc4 kV4 dc4 pm4 cd4 ct4 : Value}
    (a4 : PySem.W.nsIn K mainGlobals "_law_heaps" = some (some (.ref f4))) (l4 : K.lookup f4 = some ⟨oc4, od4, .func (PySem.W.fnOf "_law_heaps" "_law_heaps" (defArgs s_law_heaps) (defBody s_law_heaps) (defScope s_law_heaps) .none kV4 dc4 pm4 an4 cd4 ct4), sl4⟩) (c4 : PySem.W.codeIn K cd4 "_law_heaps" = true) (k4 : PySem.W.keepIn K (.ref f4) = true)
    {f5 : Addr} {od5 an5 : Option Addr} {sl5 : Array (Option Value)} {oc5 kV5 dc5 pm5 cd5 ct5 : Value}
    (a5 : PySem.W.nsIn K mainGlobals "_law_ring" = some (some (.ref f5))) (l5 : K.lookup f5 = some ⟨oc5, od5, .func (PySem.W.fnOf "_law_ring" "_law_ring" (defArgs s_law_ring) (defBody s_law_ring) (defScope s_law_ring) .none kV5 dc5 pm5 an5 cd5 ct5), sl5⟩) (c5 : PySem.W.codeIn K cd5 "_law_ring" = true) (k5 : PySem.W.keepIn K (.ref f5) = true)
    {f6 : Addr} {od6 an6 : Option Addr} {sl6 : Array (Option Value)} {oc6 kV6 dc6 pm6 cd6 ct6 : Value}
    (a6 : PySem.W.nsIn K mainGlobals "least_width" = some (some (.ref f6))) (l6 : K.lookup f6 = some ⟨oc6, od6, .func (PySem.W.fnOf "least_width" "least_width" (defArgs s_least_width) (defBody s_least_width) (defScope s_least_width) .none kV6 dc6 pm6 an6 cd6 ct6), sl6⟩) (c6 : PySem.W.codeIn K cd6 "least_width" = true) (k6 : PySem.W.keepIn K (.ref f6) = true)
    {f7 : Addr} {od7 an7 : Option Addr} {sl7 : Array (Option Value)} {oc7 kV7 dc7 pm7 cd7 ct7 : Value}
    (a7 : PySem.W.nsIn K mainGlobals "costs" = some (some (.ref f7))) (l7 : K.lookup f7 = some ⟨oc7, od7, .func (PySem.W.fnOf "costs" "costs" (defArgs s_costs) (defBody s_costs) (defScope s_costs) .none kV7 dc7 pm7 an7 cd7 ct7), sl7⟩) (c7 : PySem.W.codeIn K cd7 "costs" = true) (k7 : PySem.W.keepIn K (.ref f7) = true)
    {f8 : Addr} {od8 an8 : Option Addr} {sl8 : Array (Option Value)} {oc8 kV8 dc8 pm8 cd8 ct8 : Value}
    (a8 : PySem.W.nsIn K mainGlobals "arounds_of" = some (some (.ref f8))) (l8 : K.lookup f8 = some ⟨oc8, od8, .func (PySem.W.fnOf "arounds_of" "arounds_of" (defArgs s_arounds_of) (defBody s_arounds_of) (defScope s_arounds_of) .none kV8 dc8 pm8 an8 cd8 ct8), sl8⟩) (c8 : PySem.W.codeIn K cd8 "arounds_of" = true) (k8 : PySem.W.keepIn K (.ref f8) = true)
    {f9 : Addr} {od9 an9 : Option Addr} {sl9 : Array (Option Value)} {oc9 kV9 dc9 pm9 cd9 ct9 : Value}
    (a9 : PySem.W.nsIn K mainGlobals "sizes_of" = some (some (.ref f9))) (l9 : K.lookup f9 = some ⟨oc9, od9, .func (PySem.W.fnOf "sizes_of" "sizes_of" (defArgs s_sizes_of) (defBody s_sizes_of) (defScope s_sizes_of) .none kV9 dc9 pm9 an9 cd9 ct9), sl9⟩) (c9 : PySem.W.codeIn K cd9 "sizes_of" = true) (k9 : PySem.W.keepIn K (.ref f9) = true)
    {f10 : Addr} {od10 an10 : Option Addr} {sl10 : Array (Option Value)} {oc10 kV10 dc10 pm10 cd10 ct10 : Value}
    (a10 : PySem.W.nsIn K mainGlobals "piece_from" = some (some (.ref f10))) (l10 : K.lookup f10 = some ⟨oc10, od10, .func (PySem.W.fnOf "piece_from" "piece_from" (defArgs s_piece_from) (defBody s_piece_from) (defScope s_piece_from) .none kV10 dc10 pm10 an10 cd10 ct10), sl10⟩) (c10 : PySem.W.codeIn K cd10 "piece_from" = true) (k10 : PySem.W.keepIn K (.ref f10) = true)
    {f11 : Addr} {od11 an11 : Option Addr} {sl11 : Array (Option Value)} {oc11 kV11 dc11 pm11 cd11 ct11 : Value}
    (a11 : PySem.W.nsIn K mainGlobals "members_of" = some (some (.ref f11))) (l11 : K.lookup f11 = some ⟨oc11, od11, .func (PySem.W.fnOf "members_of" "members_of" (defArgs s_members_of) (defBody s_members_of) (defScope s_members_of) .none kV11 dc11 pm11 an11 cd11 ct11), sl11⟩) (c11 : PySem.W.codeIn K cd11 "members_of" = true) (k11 : PySem.W.keepIn K (.ref f11) = true)
    {f12 : Addr} {od12 an12 : Option Addr} {sl12 : Array (Option Value)} {oc12 kV12 dc12 pm12 cd12 ct12 : Value}
    (a12 : PySem.W.nsIn K mainGlobals "rim_of" = some (some (.ref f12))) (l12 : K.lookup f12 = some ⟨oc12, od12, .func (PySem.W.fnOf "rim_of" "rim_of" (defArgs s_rim_of) (defBody s_rim_of) (defScope s_rim_of) .none kV12 dc12 pm12 an12 cd12 ct12), sl12⟩) (c12 : PySem.W.codeIn K cd12 "rim_of" = true) (k12 : PySem.W.keepIn K (.ref f12) = true)
    {f13 : Addr} {od13 an13 : Option Addr} {sl13 : Array (Option Value)} {oc13 kV13 dc13 pm13 cd13 ct13 : Value}
    (a13 : PySem.W.nsIn K mainGlobals "wood" = some (some (.ref f13))) (l13 : K.lookup f13 = some ⟨oc13, od13, .func (PySem.W.fnOf "wood" "wood" (defArgs s_wood) (defBody s_wood) (defScope s_wood) .none kV13 dc13 pm13 an13 cd13 ct13), sl13⟩) (c13 : PySem.W.codeIn K cd13 "wood" = true) (k13 : PySem.W.keepIn K (.ref f13) = true)
    {f14 : Addr} {od14 an14 : Option Addr} {sl14 : Array (Option Value)} {oc14 kV14 dc14 pm14 cd14 ct14 : Value}
    (a14 : PySem.W.nsIn K mainGlobals "pieces" = some (some (.ref f14))) (l14 : K.lookup f14 = some ⟨oc14, od14, .func (PySem.W.fnOf "pieces" "pieces" (defArgs s_pieces) (defBody s_pieces) (defScope s_pieces) .none kV14 dc14 pm14 an14 cd14 ct14), sl14⟩) (c14 : PySem.W.codeIn K cd14 "pieces" = true) (k14 : PySem.W.keepIn K (.ref f14) = true)
    {f15 : Addr} {od15 an15 : Option Addr} {sl15 : Array (Option Value)} {oc15 kV15 dc15 pm15 cd15 ct15 : Value}
    (a15 : PySem.W.nsIn K mainGlobals "piece_of" = some (some (.ref f15))) (l15 : K.lookup f15 = some ⟨oc15, od15, .func (PySem.W.fnOf "piece_of" "piece_of" (defArgs s_piece_of) (defBody s_piece_of) (defScope s_piece_of) .none kV15 dc15 pm15 an15 cd15 ct15), sl15⟩) (c15 : PySem.W.codeIn K cd15 "piece_of" = true) (k15 : PySem.W.keepIn K (.ref f15) = true)
    {f16 : Addr} {od16 an16 : Option Addr} {sl16 : Array (Option Value)} {oc16 kV16 dc16 pm16 cd16 ct16 : Value}
    (a16 : PySem.W.nsIn K mainGlobals "around" = some (some (.ref f16))) (l16 : K.lookup f16 = some ⟨oc16, od16, .func (PySem.W.fnOf "around" "around" (defArgs s_around) (defBody s_around) (defScope s_around) .none kV16 dc16 pm16 an16 cd16 ct16), sl16⟩) (c16 : PySem.W.codeIn K cd16 "around" = true) (k16 : PySem.W.keepIn K (.ref f16) = true)
    {f17 : Addr} {od17 an17 : Option Addr} {sl17 : Array (Option Value)} {oc17 kV17 dc17 pm17 cd17 ct17 : Value}
    (a17 : PySem.W.nsIn K mainGlobals "ring_by" = some (some (.ref f17))) (l17 : K.lookup f17 = some ⟨oc17, od17, .func (PySem.W.fnOf "ring_by" "ring_by" (defArgs s_ring_by) (defBody s_ring_by) (defScope s_ring_by) .none kV17 dc17 pm17 an17 cd17 ct17), sl17⟩) (c17 : PySem.W.codeIn K cd17 "ring_by" = true) (k17 : PySem.W.keepIn K (.ref f17) = true)
    {f18 : Addr} {od18 an18 : Option Addr} {sl18 : Array (Option Value)} {oc18 kV18 dc18 pm18 cd18 ct18 : Value}
    (a18 : PySem.W.nsIn K mainGlobals "way_up" = some (some (.ref f18))) (l18 : K.lookup f18 = some ⟨oc18, od18, .func (PySem.W.fnOf "way_up" "way_up" (defArgs s_way_up) (defBody s_way_up) (defScope s_way_up) .none kV18 dc18 pm18 an18 cd18 ct18), sl18⟩) (c18 : PySem.W.codeIn K cd18 "way_up" = true) (k18 : PySem.W.keepIn K (.ref f18) = true)
    {f19 : Addr} {od19 an19 : Option Addr} {sl19 : Array (Option Value)} {oc19 kV19 dc19 pm19 cd19 ct19 : Value}
    (a19 : PySem.W.nsIn K mainGlobals "folds" = some (some (.ref f19))) (l19 : K.lookup f19 = some ⟨oc19, od19, .func (PySem.W.fnOf "folds" "folds" (defArgs s_folds) (defBody s_folds) (defScope s_folds) .none kV19 dc19 pm19 an19 cd19 ct19), sl19⟩) (c19 : PySem.W.codeIn K cd19 "folds" = true) (k19 : PySem.W.keepIn K (.ref f19) = true)
    {f20 : Addr} {od20 an20 : Option Addr} {sl20 : Array (Option Value)} {oc20 kV20 dc20 pm20 cd20 ct20 : Value}
    (a20 : PySem.W.nsIn K mainGlobals "fold_away" = some (some (.ref f20))) (l20 : K.lookup f20 = some ⟨oc20, od20, .func (PySem.W.fnOf "fold_away" "fold_away" (defArgs s_fold_away) (defBody s_fold_away) (defScope s_fold_away) .none kV20 dc20 pm20 an20 cd20 ct20), sl20⟩) (c20 : PySem.W.codeIn K cd20 "fold_away" = true) (k20 : PySem.W.keepIn K (.ref f20) = true)
    {f21 : Addr} {od21 an21 : Option Addr} {sl21 : Array (Option Value)} {oc21 kV21 dc21 pm21 cd21 ct21 : Value}
    (a21 : PySem.W.nsIn K mainGlobals "four" = some (some (.ref f21))) (l21 : K.lookup f21 = some ⟨oc21, od21, .func (PySem.W.fnOf "four" "four" (defArgs s_four) (defBody s_four) (defScope s_four) .none kV21 dc21 pm21 an21 cd21 ct21), sl21⟩) (c21 : PySem.W.codeIn K cd21 "four" = true) (k21 : PySem.W.keepIn K (.ref f21) = true)
    {f22 : Addr} {od22 an22 : Option Addr} {sl22 : Array (Option Value)} {oc22 kV22 dc22 pm22 cd22 ct22 : Value}
    (a22 : PySem.W.nsIn K mainGlobals "one_fewer" = some (some (.ref f22))) (l22 : K.lookup f22 = some ⟨oc22, od22, .func (PySem.W.fnOf "one_fewer" "one_fewer" (defArgs s_one_fewer) (defBody s_one_fewer) (defScope s_one_fewer) .none kV22 dc22 pm22 an22 cd22 ct22), sl22⟩) (c22 : PySem.W.codeIn K cd22 "one_fewer" = true) (k22 : PySem.W.keepIn K (.ref f22) = true)
    {f23 : Addr} {od23 an23 : Option Addr} {sl23 : Array (Option Value)} {oc23 kV23 dc23 pm23 cd23 ct23 : Value}
    (a23 : PySem.W.nsIn K mainGlobals "drawn_together" = some (some (.ref f23))) (l23 : K.lookup f23 = some ⟨oc23, od23, .func (PySem.W.fnOf "drawn_together" "drawn_together" (defArgs s_drawn_together) (defBody s_drawn_together) (defScope s_drawn_together) .none kV23 dc23 pm23 an23 cd23 ct23), sl23⟩) (c23 : PySem.W.codeIn K cd23 "drawn_together" = true) (k23 : PySem.W.keepIn K (.ref f23) = true)
    {f24 : Addr} {od24 an24 : Option Addr} {sl24 : Array (Option Value)} {oc24 kV24 dc24 pm24 cd24 ct24 : Value}
    (a24 : PySem.W.nsIn K mainGlobals "take_up" = some (some (.ref f24))) (l24 : K.lookup f24 = some ⟨oc24, od24, .func (PySem.W.fnOf "take_up" "take_up" (defArgs s_take_up) (defBody s_take_up) (defScope s_take_up) .none kV24 dc24 pm24 an24 cd24 ct24), sl24⟩) (c24 : PySem.W.codeIn K cd24 "take_up" = true) (k24 : PySem.W.keepIn K (.ref f24) = true)
    {f25 : Addr} {od25 an25 : Option Addr} {sl25 : Array (Option Value)} {oc25 kV25 dc25 pm25 cd25 ct25 : Value}
    (a25 : PySem.W.nsIn K mainGlobals "joint" = some (some (.ref f25))) (l25 : K.lookup f25 = some ⟨oc25, od25, .func (PySem.W.fnOf "joint" "joint" (defArgs s_joint) (defBody s_joint) (defScope s_joint) .none kV25 dc25 pm25 an25 cd25 ct25), sl25⟩) (c25 : PySem.W.codeIn K cd25 "joint" = true) (k25 : PySem.W.keepIn K (.ref f25) = true)
    {f26 : Addr} {od26 an26 : Option Addr} {sl26 : Array (Option Value)} {oc26 kV26 dc26 pm26 cd26 ct26 : Value}
    (a26 : PySem.W.nsIn K mainGlobals "less" = some (some (.ref f26))) (l26 : K.lookup f26 = some ⟨oc26, od26, .func (PySem.W.fnOf "less" "less" (defArgs s_less) (defBody s_less) (defScope s_less) .none kV26 dc26 pm26 an26 cd26 ct26), sl26⟩) (c26 : PySem.W.codeIn K cd26 "less" = true) (k26 : PySem.W.keepIn K (.ref f26) = true)
    (z0 : PySem.W.nsIn K mainGlobals "len" = some none)
    (z1 : PySem.W.nsIn K mainGlobals "sorted" = some none)
    (z2 : PySem.W.nsIn K mainGlobals "range" = some none)
    (z3 : PySem.W.nsIn K mainGlobals "list" = some none)
    (z4 : PySem.W.nsIn K mainGlobals "reversed" = some none)
    (z5 : PySem.W.nsIn K mainGlobals "min" = some none)
    (z6 : PySem.W.nsIn K mainGlobals "max" = some none)
    (z7 : PySem.W.nsIn K mainGlobals "set" = some none)
    (z8 : PySem.W.nsIn K mainGlobals "isinstance" = some none)
    (z9 : PySem.W.nsIn K mainGlobals "int" = some none)
    (z10 : PySem.W.nsIn K mainGlobals "bool" = some none)
    : ∃ fd : FuncData, (∀ (s : Shared) (v : Value), BindsTo s fd ⟨[v], []⟩ [("_law_script", v)]) ∧ ∀ base : Heap, K.In base → base.Ns mainGlobals mg → FnOk l.prog w K mg base CX0 6 fa fd ["_law_script"] (sp_law K) := by
  have e := hfa.symm.trans (PySem.W.mg_of X G a0)
  cases e
  have F0 := fun_mk (st := s_law) l0 c0 k0
  have F1 := fun_mk (st := s_law_cell) l1 c1 k1
  have D1 : Df K mg "_law_cell" s_law_cell P_law_cell := ⟨_, _, F1, PySem.W.mg_of X G a1, F1.binds (ps := P_law_cell) fun _ _ _ _ _ _ us hl => match us, hl with | [_, _], _ => rfl⟩
  have F2 := fun_mk (st := s_law_turned) l2 c2 k2
  have D2 : Df K mg "_law_turned" s_law_turned P_law_turned := ⟨_, _, F2, PySem.W.mg_of X G a2, F2.binds (ps := P_law_turned) fun _ _ _ _ _ _ us hl => match us, hl with | [_, _], _ => rfl⟩
  have F3 := fun_mk (st := s_law_ties) l3 c3 k3
  have D3 : Df K mg "_law_ties" s_law_ties P_law_ties := ⟨_, _, F3, PySem.W.mg_of X G a3, F3.binds (ps := P_law_ties) fun _ _ _ _ _ _ us hl => match us, hl with | [_, _], _ => rfl⟩
  have F4 := fun_mk (st := s_law_heaps) l4 c4 k4
  have D4 : Df K mg "_law_heaps" s_law_heaps P_law_heaps := ⟨_, _, F4, PySem.W.mg_of X G a4, F4.binds (ps := P_law_heaps) fun _ _ _ _ _ _ us hl => match us, hl with | [_, _], _ => rfl⟩
  have F5 := fun_mk (st := s_law_ring) l5 c5 k5
  have D5 : Df K mg "_law_ring" s_law_ring P_law_ring := ⟨_, _, F5, PySem.W.mg_of X G a5, F5.binds (ps := P_law_ring) fun _ _ _ _ _ _ us hl => match us, hl with | [_, _], _ => rfl⟩
  have F6 := fun_mk (st := s_least_width) l6 c6 k6
  have D6 : Df K mg "least_width" s_least_width P_least_width := ⟨_, _, F6, PySem.W.mg_of X G a6, F6.binds (ps := P_least_width) fun _ _ _ _ _ _ us hl => match us, hl with | [_], _ => rfl⟩
  have F7 := fun_mk (st := s_costs) l7 c7 k7
  have D7 : Df K mg "costs" s_costs P_costs := ⟨_, _, F7, PySem.W.mg_of X G a7, F7.binds (ps := P_costs) fun _ _ _ _ _ _ us hl => match us, hl with | [_], _ => rfl⟩
  have F8 := fun_mk (st := s_arounds_of) l8 c8 k8
  have D8 : Df K mg "arounds_of" s_arounds_of P_arounds_of := ⟨_, _, F8, PySem.W.mg_of X G a8, F8.binds (ps := P_arounds_of) fun _ _ _ _ _ _ us hl => match us, hl with | [_], _ => rfl⟩
  have F9 := fun_mk (st := s_sizes_of) l9 c9 k9
  have D9 : Df K mg "sizes_of" s_sizes_of P_sizes_of := ⟨_, _, F9, PySem.W.mg_of X G a9, F9.binds (ps := P_sizes_of) fun _ _ _ _ _ _ us hl => match us, hl with | [_], _ => rfl⟩
  have F10 := fun_mk (st := s_piece_from) l10 c10 k10
  have D10 : Df K mg "piece_from" s_piece_from P_piece_from := ⟨_, _, F10, PySem.W.mg_of X G a10, F10.binds (ps := P_piece_from) fun _ _ _ _ _ _ us hl => match us, hl with | [_, _, _], _ => rfl⟩
  have F11 := fun_mk (st := s_members_of) l11 c11 k11
  have D11 : Df K mg "members_of" s_members_of P_members_of := ⟨_, _, F11, PySem.W.mg_of X G a11, F11.binds (ps := P_members_of) fun _ _ _ _ _ _ us hl => match us, hl with | [_, _], _ => rfl⟩
  have F12 := fun_mk (st := s_rim_of) l12 c12 k12
  have D12 : Df K mg "rim_of" s_rim_of P_rim_of := ⟨_, _, F12, PySem.W.mg_of X G a12, F12.binds (ps := P_rim_of) fun _ _ _ _ _ _ us hl => match us, hl with | [_, _], _ => rfl⟩
  have F13 := fun_mk (st := s_wood) l13 c13 k13
  have D13 : Df K mg "wood" s_wood P_wood := ⟨_, _, F13, PySem.W.mg_of X G a13, F13.binds (ps := P_wood) fun _ _ _ _ _ _ us hl => match us, hl with | [_], _ => rfl⟩
  have F14 := fun_mk (st := s_pieces) l14 c14 k14
  have D14 : Df K mg "pieces" s_pieces P_pieces := ⟨_, _, F14, PySem.W.mg_of X G a14, F14.binds (ps := P_pieces) fun _ _ _ _ _ _ us hl => match us, hl with | [_, _], _ => rfl⟩
  have F15 := fun_mk (st := s_piece_of) l15 c15 k15
  have D15 : Df K mg "piece_of" s_piece_of P_piece_of := ⟨_, _, F15, PySem.W.mg_of X G a15, F15.binds (ps := P_piece_of) fun _ _ _ _ _ _ us hl => match us, hl with | [_, _, _], _ => rfl⟩
  have F16 := fun_mk (st := s_around) l16 c16 k16
  have D16 : Df K mg "around" s_around P_around := ⟨_, _, F16, PySem.W.mg_of X G a16, F16.binds (ps := P_around) fun _ _ _ _ _ _ us hl => match us, hl with | [_, _], _ => rfl⟩
  have F17 := fun_mk (st := s_ring_by) l17 c17 k17
  have D17 : Df K mg "ring_by" s_ring_by P_ring_by := ⟨_, _, F17, PySem.W.mg_of X G a17, F17.binds (ps := P_ring_by) fun _ _ _ _ _ _ us hl => match us, hl with | [_, _, _], _ => rfl⟩
  have F18 := fun_mk (st := s_way_up) l18 c18 k18
  have D18 : Df K mg "way_up" s_way_up P_way_up := ⟨_, _, F18, PySem.W.mg_of X G a18, F18.binds (ps := P_way_up) fun _ _ _ _ _ _ us hl => match us, hl with | [_, _], _ => rfl⟩
  have F19 := fun_mk (st := s_folds) l19 c19 k19
  have D19 : Df K mg "folds" s_folds P_folds := ⟨_, _, F19, PySem.W.mg_of X G a19, F19.binds (ps := P_folds) fun _ _ _ _ _ _ us hl => match us, hl with | [_], _ => rfl⟩
  have F20 := fun_mk (st := s_fold_away) l20 c20 k20
  have D20 : Df K mg "fold_away" s_fold_away P_fold_away := ⟨_, _, F20, PySem.W.mg_of X G a20, F20.binds (ps := P_fold_away) fun _ _ _ _ _ _ us hl => match us, hl with | [_, _], _ => rfl⟩
  have F21 := fun_mk (st := s_four) l21 c21 k21
  have D21 : Df K mg "four" s_four P_four := ⟨_, _, F21, PySem.W.mg_of X G a21, F21.binds (ps := P_four) fun _ _ _ _ _ _ us hl => match us, hl with | [_], _ => rfl⟩
  have F22 := fun_mk (st := s_one_fewer) l22 c22 k22
  have D22 : Df K mg "one_fewer" s_one_fewer P_one_fewer := ⟨_, _, F22, PySem.W.mg_of X G a22, F22.binds (ps := P_one_fewer) fun _ _ _ _ _ _ us hl => match us, hl with | [_, _, _], _ => rfl⟩
  have F23 := fun_mk (st := s_drawn_together) l23 c23 k23
  have D23 : Df K mg "drawn_together" s_drawn_together P_drawn_together := ⟨_, _, F23, PySem.W.mg_of X G a23, F23.binds (ps := P_drawn_together) fun _ _ _ _ _ _ us hl => match us, hl with | [_, _, _], _ => rfl⟩
  have F24 := fun_mk (st := s_take_up) l24 c24 k24
  have D24 : Df K mg "take_up" s_take_up P_take_up := ⟨_, _, F24, PySem.W.mg_of X G a24, F24.binds (ps := P_take_up) fun _ _ _ _ _ _ us hl => match us, hl with | [_, _], _ => rfl⟩
  have F25 := fun_mk (st := s_joint) l25 c25 k25
  have D25 : Df K mg "joint" s_joint P_joint := ⟨_, _, F25, PySem.W.mg_of X G a25, F25.binds (ps := P_joint) fun _ _ _ _ _ _ us hl => match us, hl with | [_, _], _ => rfl⟩
  have F26 := fun_mk (st := s_less) l26 c26 k26
  have D26 : Df K mg "less" s_less P_less := ⟨_, _, F26, PySem.W.mg_of X G a26, F26.binds (ps := P_less) fun _ _ _ _ _ _ us hl => match us, hl with | [_, _], _ => rfl⟩
  have B : Bi mg := ⟨PySem.W.mg_none_of X G z0, PySem.W.mg_none_of X G z1, PySem.W.mg_none_of X G z2, PySem.W.mg_none_of X G z3, PySem.W.mg_none_of X G z4, PySem.W.mg_none_of X G z5, PySem.W.mg_none_of X G z6, PySem.W.mg_none_of X G z7, PySem.W.mg_none_of X G z8, PySem.W.mg_none_of X G z9, PySem.W.mg_none_of X G z10⟩
  exact ⟨PySem.W.fnOf "law" "law" (defArgs s_law) (defBody s_law) (defScope s_law) .none kV0 dc0 pm0 an0 cd0 ct0, fun s v => .of_eq rfl, fun base _ _ => ok_law (⟨_, _, F0, PySem.W.mg_of X G a0, F0.binds (ps := P_law) fun _ _ _ _ _ _ us hl => match us, hl with | [_], _ => rfl⟩ : Df K mg "law" s_law P_law) D1 D2 D3 D4 D5 D6 D7 D8 D9 D10 D11 D12 D13 D14 D15 D16 D17 D18 D19 D20 D21 D22 D23 D24 D25 D26 B⟩
end Bw
open PySem PySem.W PyProof.Rows
set_option maxHeartbeats 0 in
theorem PySem.Challenge.cw_bagwood_k49_whole_low_widths_holds : PySem.Challenge.rw_bagwood_k49_whole_low_widths.Holds := by
  w_on; o_law; k_head; (case hw => w_witness2)
  k_fill
  refine L2.walk_of (l := PySem.Challenge.rw_bagwood_k49_whole_low_widths) (n := 63) (k := 6) (x := "_law_script") (CX := fun _ => L2.CX0) (sp := fun w => Bw.sp_law _) rfl (by decide) rfl ⟨rfl, by decide, by decide⟩ (fun w h Y => PySem.W.kIn_of Y) ?F (fun _ _ a ns hl _ hS => ⟨a, ns, rfl, hS, hl, fun _ => rfl⟩) (fun _ _ _ _ _ h => h)
  case F =>
    intro w mg fa h KX G hmg
    refine' Bw.all_mk KX G hmg ?a0 ?l0 ?c0 ?k0 ?a1 ?l1 ?c1 ?k1 ?a2 ?l2 ?c2 ?k2 ?a3 ?l3 ?c3 ?k3 ?a4 ?l4 ?c4 ?k4 ?a5 ?l5 ?c5 ?k5 ?a6 ?l6 ?c6 ?k6 ?a7 ?l7 ?c7 ?k7 ?a8 ?l8 ?c8 ?k8 ?a9 ?l9 ?c9 ?k9 ?a10 ?l10 ?c10 ?k10 ?a11 ?l11 ?c11 ?k11 ?a12 ?l12 ?c12 ?k12 ?a13 ?l13 ?c13 ?k13 ?a14 ?l14 ?c14 ?k14 ?a15 ?l15 ?c15 ?k15 ?a16 ?l16 ?c16 ?k16 ?a17 ?l17 ?c17 ?k17 ?a18 ?l18 ?c18 ?k18 ?a19 ?l19 ?c19 ?k19 ?a20 ?l20 ?c20 ?k20 ?a21 ?l21 ?c21 ?k21 ?a22 ?l22 ?c22 ?k22 ?a23 ?l23 ?c23 ?k23 ?a24 ?l24 ?c24 ?k24 ?a25 ?l25 ?c25 ?k25 ?a26 ?l26 ?c26 ?k26 ?z0 ?z1 ?z2 ?z3 ?z4 ?z5 ?z6 ?z7 ?z8 ?z9 ?z10
    (case a0 => k_is)
    (case l0 => k_is)
    (case c0 => k_is)
    (case k0 => k_is)
    (case a1 => k_is)
    (case l1 => k_is)
    (case c1 => k_is)
    (case k1 => k_is)
    (case a2 => k_is)
    (case l2 => k_is)
    (case c2 => k_is)
    (case k2 => k_is)
    (case a3 => k_is)
    (case l3 => k_is)
    (case c3 => k_is)
    (case k3 => k_is)
    (case a4 => k_is)
    (case l4 => k_is)
    (case c4 => k_is)
    (case k4 => k_is)
    (case a5 => k_is)
    (case l5 => k_is)
    (case c5 => k_is)
    (case k5 => k_is)
    (case a6 => k_is)
    (case l6 => k_is)
    (case c6 => k_is)
    (case k6 => k_is)
    (case a7 => k_is)
    (case l7 => k_is)
    (case c7 => k_is)
    (case k7 => k_is)
    (case a8 => k_is)
    (case l8 => k_is)
    (case c8 => k_is)
    (case k8 => k_is)
    (case a9 => k_is)
    (case l9 => k_is)
    (case c9 => k_is)
    (case k9 => k_is)
    (case a10 => k_is)
    (case l10 => k_is)
    (case c10 => k_is)
    (case k10 => k_is)
    (case a11 => k_is)
    (case l11 => k_is)
    (case c11 => k_is)
    (case k11 => k_is)
    (case a12 => k_is)
    (case l12 => k_is)
    (case c12 => k_is)
    (case k12 => k_is)
    (case a13 => k_is)
    (case l13 => k_is)
    (case c13 => k_is)
    (case k13 => k_is)
    (case a14 => k_is)
    (case l14 => k_is)
    (case c14 => k_is)
    (case k14 => k_is)
    (case a15 => k_is)
    (case l15 => k_is)
    (case c15 => k_is)
    (case k15 => k_is)
    (case a16 => k_is)
    (case l16 => k_is)
    (case c16 => k_is)
    (case k16 => k_is)
    (case a17 => k_is)
    (case l17 => k_is)
    (case c17 => k_is)
    (case k17 => k_is)
    (case a18 => k_is)
    (case l18 => k_is)
    (case c18 => k_is)
    (case k18 => k_is)
    (case a19 => k_is)
    (case l19 => k_is)
    (case c19 => k_is)
    (case k19 => k_is)
    (case a20 => k_is)
    (case l20 => k_is)
    (case c20 => k_is)
    (case k20 => k_is)
    (case a21 => k_is)
    (case l21 => k_is)
    (case c21 => k_is)
    (case k21 => k_is)
    (case a22 => k_is)
    (case l22 => k_is)
    (case c22 => k_is)
    (case k22 => k_is)
    (case a23 => k_is)
    (case l23 => k_is)
    (case c23 => k_is)
    (case k23 => k_is)
    (case a24 => k_is)
    (case l24 => k_is)
    (case c24 => k_is)
    (case k24 => k_is)
    (case a25 => k_is)
    (case l25 => k_is)
    (case c25 => k_is)
    (case k25 => k_is)
    (case a26 => k_is)
    (case l26 => k_is)
    (case c26 => k_is)
    (case k26 => k_is)
    (case z0 => k_is)
    (case z1 => k_is)
    (case z2 => k_is)
    (case z3 => k_is)
    (case z4 => k_is)
    (case z5 => k_is)
    (case z6 => k_is)
    (case z7 => k_is)
    (case z8 => k_is)
    (case z9 => k_is)
    (case z10 => k_is)
