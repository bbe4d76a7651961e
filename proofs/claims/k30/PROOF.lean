import PyProof.Rows.All
import Wide.All
import OpenK.AllK
import Wide.FinOn
import HandS.ForMost
import HandS.HotCalls
import HandS.Star
import KE.DataMinMax
import KE.DataAny
import HandS.SortKw
import HandS.ExcCtx
import PySem.Challenge.RW_sayonce_k30_whole_word_by_word
import HandS.Codes
import HandS.TupAny
import HandS.DictTup
import HandS.SortInts
import HandS.More
import HandS.WordsDict
import HandS.Walk
import HandS.DictComp
import HandS.IsInst
import HandS.TupLe
import HandS.Conv
import HandS.Set
import HandS.SetFor
import HandS.Strs
import HandS.SetTxt0
import HandS.EndBits
set_option autoImplicit false
/-! K30Math: derivations of number words, what is possible behind some words, the greatest possible number up to a limit. No program here. -/
namespace K30
structure Row (W : Type) where
  w : W
  v : Int
  most : Option Int
  uns : Bool
  rest : Int
structure Sy (W : Type) where
  simple : List (W × Int)
  mult : List (Row W)
section
variable {W : Type}
/-- a count that is spoken ahead of a multiplier -/
def Spoken (r : Row W) (n : Int) : Prop := (if r.uns = true then 2 else 1) ≤ n ∧ ∀ c, r.most = some c → n ≤ c
inductive Der (S : Sy W) : Int → List W → Prop
  | simple {w : W} {v : Int} : (w, v) ∈ S.simple → Der S v [w]
  | bare {r : Row W} : r ∈ S.mult → r.uns = true → Der S r.v [r.w]
  | bareR {r : Row W} {t : Int} {pr : List W} : r ∈ S.mult → r.uns = true → t ≤ r.rest → Der S t pr → Der S (r.v + t) (r.w :: pr)
  | mul {r : Row W} {g : Int} {pc : List W} : r ∈ S.mult → Spoken r g → Der S g pc → Der S (g * r.v) (pc ++ [r.w])
  | mulR {r : Row W} {g t : Int} {pc pr : List W} : r ∈ S.mult → Spoken r g → t ≤ r.rest → Der S g pc → Der S t pr → Der S (g * r.v + t) (pc ++ r.w :: pr)
/-- the systems that the law draws -/
structure Sy.Ok (S : Sy W) : Prop where
  sv : ∀ p ∈ S.simple, 1 ≤ p.2 ∧ p.2 ≤ 8
  mv : ∀ r ∈ S.mult, 2 ≤ r.v ∧ r.v ≤ 9
  mc : ∀ r ∈ S.mult, ∀ c, r.most = some c → 1 ≤ c ∧ c ≤ 4
  mr : ∀ r ∈ S.mult, 0 ≤ r.rest ∧ r.rest < r.v
  nd : (S.simple.map (·.1) ++ S.mult.map (·.w)).Nodup
  ls : S.simple.length ≤ 5
  lm : S.mult.length ≤ 3
  one : ∀ (i j : Nat) (r q : Row W), S.mult[i]? = some r → S.mult[j]? = some q → r.most = none → q.most = none → i = j
/-- what stands ahead, what stands behind -/
def CountD (S : Sy W) (r : Row W) (g : Int) (pc : List W) : Prop := (g = 1 ∧ r.uns = true ∧ pc = []) ∨ (Spoken r g ∧ Der S g pc)
def RestD (S : Sy W) (r : Row W) (t : Int) (pr : List W) : Prop := (t = 0 ∧ pr = []) ∨ (t ≤ r.rest ∧ Der S t pr)
variable {S : Sy W}
theorem Der.make {r : Row W} {g t : Int} {pc pr : List W} (hr : r ∈ S.mult) (hc : CountD S r g pc) (ht : RestD S r t pr) : Der S (g * r.v + t) (pc ++ r.w :: pr) := by
  rcases hc with ⟨rfl, hu, rfl⟩ | ⟨hs, hd⟩
  · rcases ht with ⟨rfl, rfl⟩ | ⟨hl, hd2⟩
    · rw [Int.one_mul, Int.add_zero]
      exact .bare hr hu
    · rw [Int.one_mul]
      exact .bareR hr hu hl hd2
  · rcases ht with ⟨rfl, rfl⟩ | ⟨hl, hd2⟩
    · rw [Int.add_zero]
      exact .mul hr hs hd
    · exact .mulR hr hs hl hd hd2
theorem Der.inv {n : Int} {p : List W} (h : Der S n p) : (∃ w, (w, n) ∈ S.simple ∧ p = [w]) ∨
    ∃ r g t pc pr, r ∈ S.mult ∧ CountD S r g pc ∧ RestD S r t pr ∧ n = g * r.v + t ∧ p = pc ++ r.w :: pr := by
  cases h with
  | simple h => exact .inl ⟨_, h, rfl⟩
  | bare h1 h2 => exact .inr ⟨_, 1, 0, [], [], h1, .inl ⟨rfl, h2, rfl⟩, .inl ⟨rfl, rfl⟩, by simp, rfl⟩
  | bareR h1 h2 h3 h4 => exact .inr ⟨_, 1, _, [], _, h1, .inl ⟨rfl, h2, rfl⟩, .inr ⟨h3, h4⟩, by simp, rfl⟩
  | mul h1 h2 h3 => exact .inr ⟨_, _, 0, _, [], h1, .inr ⟨h2, h3⟩, .inl ⟨rfl, rfl⟩, by simp, rfl⟩
  | mulR h1 h2 h3 h4 h5 => exact .inr ⟨_, _, _, _, _, h1, .inr ⟨h2, h4⟩, .inr ⟨h3, h5⟩, rfl, rfl⟩
theorem Spoken.pos {r : Row W} {n : Int} (h : Spoken r n) : 1 ≤ n := by
  have := h.1
  split at this <;> omega
theorem Der.pos (ok : S.Ok) {n : Int} {p : List W} (h : Der S n p) : 1 ≤ n ∧ p ≠ [] := by
  induction h with
  | simple h => exact ⟨(ok.sv _ h).1, by simp⟩
  | bare h _ => exact ⟨by have := (ok.mv _ h).1; omega, by simp⟩
  | bareR h _ _ _ ih => exact ⟨by have := (ok.mv _ h).1; omega, by simp⟩
  | @mul r g pc h hs _ ih =>
    have hv := (ok.mv _ h).1
    refine ⟨?_, by simp⟩
    have : 1 * 1 ≤ g * r.v := Int.mul_le_mul ih.1 (by omega) (by decide) (by omega)
    omega
  | @mulR r g t pc pr h hs _ _ _ ih1 ih2 =>
    have hv := (ok.mv _ h).1
    refine ⟨?_, by simp⟩
    have : 1 * 1 ≤ g * r.v := Int.mul_le_mul ih1.1 (by omega) (by decide) (by omega)
    omega
theorem CountD.pos {r : Row W} {g : Int} {pc : List W} (h : CountD S r g pc) : 1 ≤ g := by
  rcases h with ⟨rfl, _⟩ | ⟨h, _⟩
  · exact Int.le_refl _
  · exact h.pos
theorem RestD.bd (ok : S.Ok) {r : Row W} (hr : r ∈ S.mult) {t : Int} {pr : List W} (h : RestD S r t pr) : 0 ≤ t ∧ t ≤ r.rest := by
  rcases h with ⟨rfl, _⟩ | ⟨h, d⟩
  · exact ⟨Int.le_refl _, (ok.mr r hr).1⟩
  · exact ⟨by have := (d.pos ok).1; omega, h⟩
theorem gv_ge {g v : Int} (hg : 1 ≤ g) (hv : 2 ≤ v) : v ≤ g * v ∧ 2 * g ≤ g * v := by
  constructor
  · have : 1 * v ≤ g * v := Int.mul_le_mul_of_nonneg_right hg (by omega)
    omega
  · have : g * 2 ≤ g * v := Int.mul_le_mul_of_nonneg_left hv (by omega)
    omega
/-- every beginning of a derivation's phrase is the phrase of a derivation -/
theorem Der.prefix_ (ok : S.Ok) {n : Int} {p : List W} (h : Der S n p) : ∀ a b, p = a ++ b → a ≠ [] → ∃ m, m ≤ n ∧ Der S m a := by
  induction h with
  | @simple w v h =>
    intro a b e ha
    match a, e, ha with
    | [x], e, _ =>
      have e1 : w = x := by simpa using (List.cons.inj e).1
      exact ⟨v, Int.le_refl _, e1 ▸ .simple h⟩
    | x :: y :: a, e, _ => simp at e
  | @bare r h hu =>
    intro a b e ha
    match a, e, ha with
    | [x], e, _ =>
      have e1 : r.w = x := by simpa using (List.cons.inj e).1
      exact ⟨r.v, Int.le_refl _, e1 ▸ .bare h hu⟩
    | x :: y :: a, e, _ => simp at e
  | @bareR r t pr h hu hl hd ih =>
    intro a b e ha
    have ht := (hd.pos ok).1
    match a, e, ha with
    | x :: a, e, _ =>
      obtain ⟨e1, e2⟩ := List.cons.inj e
      subst e1
      by_cases h0 : a = []
      · subst h0
        exact ⟨r.v, by omega, .bare h hu⟩
      · obtain ⟨m, hm, d⟩ := ih a b e2 h0
        exact ⟨r.v + m, by omega, .bareR h hu (by omega) d⟩
  | @mul r g pc h hs hd ih =>
    intro a b e ha
    have hg := (hd.pos ok).1
    have hv := gv_ge hg (ok.mv r h).1
    rcases List.append_eq_append_iff.mp e with ⟨c, e1, e2⟩ | ⟨c, e1, e2⟩
    · match c, e1, e2 with
      | [], e1, e2 =>
        rw [List.append_nil] at e1
        subst e1
        exact ⟨g, by omega, hd⟩
      | x :: c, e1, e2 =>
        obtain ⟨e3, e4⟩ := List.cons.inj e2
        have e5 : c = [] := (List.append_eq_nil_iff.mp e4.symm).1
        subst e5
        subst e3
        exact ⟨g * r.v, Int.le_refl _, e1 ▸ .mul h hs hd⟩
    · obtain ⟨m, hm, d⟩ := ih a c e1 ha
      exact ⟨m, by omega, d⟩
  | @mulR r g t pc pr h hs hl hd hd2 ih ih2 =>
    intro a b e ha
    have hg := (hd.pos ok).1
    have ht := (hd2.pos ok).1
    have hv := gv_ge hg (ok.mv r h).1
    rcases List.append_eq_append_iff.mp e with ⟨c, e1, e2⟩ | ⟨c, e1, e2⟩
    · match c, e1, e2 with
      | [], e1, e2 =>
        rw [List.append_nil] at e1
        subst e1
        exact ⟨g, by omega, hd⟩
      | x :: c, e1, e2 =>
        obtain ⟨e3, e4⟩ := List.cons.inj e2
        subst e3
        by_cases h0 : c = []
        · subst h0
          exact ⟨g * r.v, by omega, e1 ▸ .mul h hs hd⟩
        · obtain ⟨m, hm, d⟩ := ih2 c b e4 h0
          exact ⟨g * r.v + m, by omega, e1 ▸ .mulR h hs (by omega) hd d⟩
    · obtain ⟨m, hm, d⟩ := ih a c e1 ha
      exact ⟨m, by omega, d⟩
/-- a phrase of n words means at most ten to the n -/
theorem Der.bd (ok : S.Ok) {n : Int} {p : List W} (h : Der S n p) : n ≤ 10 ^ p.length := by
  have one : ∀ {l : List W}, l ≠ [] → (10 : Int) ≤ 10 ^ l.length := fun {l} hl => by
    match l, hl with
    | x :: l, _ =>
      rw [List.length_cons, Int.pow_succ]
      have : (0 : Int) < 10 ^ l.length := Int.pow_pos (by decide)
      omega
  have ge : ∀ k : Nat, (1 : Int) ≤ 10 ^ k := fun k => by
    have : (0 : Int) < 10 ^ k := Int.pow_pos (by decide)
    omega
  induction h with
  | simple h =>
    have := (ok.sv _ h).2
    show _ ≤ (10 : Int) ^ 1
    omega
  | bare h _ =>
    have := (ok.mv _ h).2
    show _ ≤ (10 : Int) ^ 1
    omega
  | @bareR r t pr h hu hl hd ih =>
    have h1 := (ok.mv _ h).2
    have h2 := (ok.mr _ h).2
    rw [List.length_cons, Int.pow_succ]
    have := one (hd.pos ok).2
    omega
  | @mul r g pc h hs hd ih =>
    have h1 := (ok.mv _ h).2
    have hg := (hd.pos ok).1
    rw [List.length_append, List.length_singleton, Int.pow_succ]
    have : g * r.v ≤ g * 10 := Int.mul_le_mul_of_nonneg_left (by omega) (by omega)
    omega
  | @mulR r g t pc pr h hs hl hd hd2 ih ih2 =>
    have h1 := (ok.mv _ h).2
    have h2 := (ok.mr _ h).2
    have hg := (hd.pos ok).1
    have e : (10 : Int) ^ (pc ++ r.w :: pr).length = 10 ^ pc.length * 10 * 10 ^ pr.length := by
      rw [List.length_append, List.length_cons, Nat.add_succ, ← Nat.succ_add, Int.pow_add, Int.pow_succ]
    have h3 : g * r.v ≤ g * 9 := Int.mul_le_mul_of_nonneg_left (by omega) (by omega)
    have h4 := one (hd.pos ok).2
    have h5 : (10 ^ pc.length * 10) * 1 ≤ (10 : Int) ^ pc.length * 10 * 10 ^ pr.length := Int.mul_le_mul_of_nonneg_left (ge _) (by omega)
    omega

/-! ### what is possible; the greatest up to a limit -/
def Poss (S : Sy W) (u : List W) (n : Int) : Prop := ∃ q, Der S n (u ++ q)
def IsMax (P : Int → Prop) (L r : Int) : Prop := (r = 0 ∧ ∀ n, 1 ≤ n → n ≤ L → ¬ P n) ∨ (1 ≤ r ∧ r ≤ L ∧ P r ∧ ∀ n, n ≤ L → P n → n ≤ r)
theorem IsMax.uniq {P : Int → Prop} {L a b : Int} (h : IsMax P L a) (h' : IsMax P L b) : a = b := by
  rcases h with ⟨rfl, h⟩ | ⟨h1, h2, h3, h4⟩
  · rcases h' with ⟨rfl, _⟩ | ⟨k1, k2, k3, _⟩
    · rfl
    · exact absurd k3 (h _ k1 k2)
  · rcases h' with ⟨rfl, k⟩ | ⟨k1, k2, k3, k4⟩
    · exact absurd h3 (k _ h1 h2)
    · have := h4 b k2 k3
      have := k4 a h2 h3
      omega
theorem IsMax.congr {P Q : Int → Prop} {L a : Int} (h : IsMax P L a) (e : ∀ n, P n ↔ Q n) : IsMax Q L a := by
  have : P = Q := funext fun n => propext (e n)
  exact this ▸ h
theorem IsMax.none {P : Int → Prop} {L : Int} (h : ∀ n, 1 ≤ n → n ≤ L → ¬ P n) : IsMax P L 0 := .inl ⟨rfl, h⟩
theorem IsMax.bd {P : Int → Prop} {L a : Int} (h : IsMax P L a) : 0 ≤ a ∧ (a ≤ L ∨ a = 0) := by
  rcases h with ⟨rfl, _⟩ | ⟨h1, h2, _⟩
  · exact ⟨Int.le_refl _, .inr rfl⟩
  · exact ⟨by omega, .inl h2⟩
theorem IsMax.or {P Q : Int → Prop} {L a b : Int} (h : IsMax P L a) (h' : IsMax Q L b) : IsMax (fun n => P n ∨ Q n) L (if b > a then b else a) := by
  rcases h with ⟨rfl, h⟩ | ⟨h1, h2, h3, h4⟩
  · rcases h' with ⟨rfl, k⟩ | ⟨k1, k2, k3, k4⟩
    · rw [if_neg (by omega)]
      exact .inl ⟨rfl, fun n a b c => c.elim (h n a b) (k n a b)⟩
    · rw [if_pos (by omega)]
      refine .inr ⟨k1, k2, .inr k3, fun n hn c => c.elim (fun c => ?_) (k4 n hn)⟩
      by_cases h0 : 1 ≤ n
      · exact absurd c (h n h0 hn)
      · omega
  · rcases h' with ⟨rfl, k⟩ | ⟨k1, k2, k3, k4⟩
    · rw [if_neg (by omega)]
      refine .inr ⟨h1, h2, .inl h3, fun n hn c => c.elim (h4 n hn) fun c => ?_⟩
      by_cases h0 : 1 ≤ n
      · exact absurd c (k n h0 hn)
      · omega
    · by_cases hb : b > a
      · rw [if_pos hb]
        refine .inr ⟨k1, k2, .inr k3, fun n hn c => c.elim (fun c => ?_) (k4 n hn)⟩
        have := h4 n hn c
        omega
      · rw [if_neg hb]
        refine .inr ⟨h1, h2, .inl h3, fun n hn c => c.elim (h4 n hn) fun c => ?_⟩
        have := k4 n hn c
        omega
/-- is a number possible: its own greatest up to it is itself -/
theorem IsMax.self {P : Int → Prop} {L a : Int} (h : IsMax P L a) (hL : 1 ≤ L) : a = L ↔ P L := by
  rcases h with ⟨rfl, h⟩ | ⟨h1, h2, h3, h4⟩
  · constructor
    · omega
    · intro p
      exact absurd p (h L hL (Int.le_refl _))
  · constructor
    · rintro rfl
      exact h3
    · intro p
      have := h4 L (Int.le_refl _) p
      omega
theorem Poss.pos (ok : S.Ok) {u : List W} {n : Int} (h : Poss S u n) : 1 ≤ n := by
  obtain ⟨q, d⟩ := h
  exact (d.pos ok).1

/-! ### the parts of a possible number -/
/-- the outermost word stands at a place of u: its count g is said ahead, u' stands behind -/
def BegunG (S : Sy W) (r : Row W) (g : Int) (u' : List W) (n : Int) : Prop := ∃ t, ((t = 0 ∧ u' = []) ∨ (t ≤ r.rest ∧ Poss S u' t)) ∧ n = g * r.v + t
def Begun (S : Sy W) (u : List W) (n : Int) : Prop := ∃ r pc u' g, r ∈ S.mult ∧ u = pc ++ r.w :: u' ∧ CountD S r g pc ∧ BegunG S r g u' n
/-- the outermost word comes behind u -/
def LaterR (S : Sy W) (u : List W) (r : Row W) (n : Int) : Prop := ∃ g t, Spoken r g ∧ Poss S u g ∧ (t = 0 ∨ (t ≤ r.rest ∧ Poss S [] t)) ∧ n = g * r.v + t
/-- the outermost word is the first -/
def FirstR (S : Sy W) (r : Row W) (n : Int) : Prop := r.uns = true ∧ ∃ t, (t = 0 ∨ (t ≤ r.rest ∧ Poss S [] t)) ∧ n = r.v + t
theorem poss_nil_iff (n : Int) : Poss S [] n ↔ ((∃ w, (w, n) ∈ S.simple) ∨ ∃ r ∈ S.mult, FirstR S r n) ∨ ∃ r ∈ S.mult, LaterR S [] r n := by
  constructor
  · rintro ⟨q, d⟩
    rw [List.nil_append] at d
    rcases d.inv with ⟨w, h, rfl⟩ | ⟨r, g, t, pc, pr, hr, hc, ht, rfl, rfl⟩
    · exact .inl (.inl ⟨w, h⟩)
    · have ht' : t = 0 ∨ (t ≤ r.rest ∧ Poss S [] t) := ht.imp (fun z => z.1) fun z => ⟨z.1, pr, z.2⟩
      rcases hc with ⟨rfl, hu, rfl⟩ | ⟨hs, d⟩
      · exact .inl (.inr ⟨r, hr, hu, t, ht', by rw [Int.one_mul]⟩)
      · exact .inr ⟨r, hr, g, t, hs, ⟨pc, d⟩, ht', rfl⟩
  · have rd : ∀ {r : Row W} {t : Int}, (t = 0 ∨ (t ≤ r.rest ∧ Poss S [] t)) → ∃ pr, RestD S r t pr := fun h => by
      rcases h with rfl | ⟨h, q, d⟩
      · exact ⟨[], .inl ⟨rfl, rfl⟩⟩
      · exact ⟨q, .inr ⟨h, d⟩⟩
    rintro ((⟨w, h⟩ | ⟨r, hr, hu, t, ht, rfl⟩) | ⟨r, hr, g, t, hs, ⟨q, d⟩, ht, rfl⟩)
    · exact ⟨[w], .simple h⟩
    · obtain ⟨pr, hp⟩ := rd ht
      have := Der.make (g := 1) (pc := []) hr (.inl ⟨rfl, hu, rfl⟩) hp
      rw [Int.one_mul] at this
      exact ⟨_, this⟩
    · obtain ⟨pr, hp⟩ := rd ht
      rw [List.nil_append] at d
      exact ⟨q ++ r.w :: pr, Der.make hr (.inr ⟨hs, d⟩) hp⟩
theorem poss_cons_iff {u : List W} (hu : u ≠ []) (n : Int) : Poss S u n ↔ (Begun S u n ∨ ∃ w, u = [w] ∧ (w, n) ∈ S.simple) ∨ ∃ r ∈ S.mult, LaterR S u r n := by
  constructor
  · rintro ⟨q, d⟩
    rcases d.inv with ⟨w, h, e⟩ | ⟨r, g, t, pc, pr, hr, hc, ht, rfl, e⟩
    · match u, hu, e with
      | [x], _, e =>
        have : x = w := (List.cons.inj e).1
        exact .inl (.inr ⟨x, rfl, this ▸ h⟩)
      | x :: y :: u, _, e => simp at e
    · rcases List.append_eq_append_iff.mp e with ⟨c, e1, e2⟩ | ⟨c, e1, e2⟩
      · -- pc = u ++ c
        right
        refine ⟨r, hr, g, t, ?_⟩
        rcases hc with ⟨_, _, rfl⟩ | ⟨hs, d'⟩
        · exact absurd (List.append_eq_nil_iff.mp e1.symm).1 hu
        · exact ⟨hs, ⟨c, e1 ▸ d'⟩, ht.imp (fun z => z.1) fun z => ⟨z.1, pr, z.2⟩, rfl⟩
      · match c, e1, e2 with
        | [], e1, e2 =>
          rw [List.append_nil] at e1
          subst e1
          right
          refine ⟨r, hr, g, t, ?_⟩
          rcases hc with ⟨_, _, h0⟩ | ⟨hs, d'⟩
          · exact absurd h0 hu
          · exact ⟨hs, ⟨[], by rw [List.append_nil]; exact d'⟩, ht.imp (fun z => z.1) fun z => ⟨z.1, pr, z.2⟩, rfl⟩
        | x :: c, e1, e2 =>
          obtain ⟨e3, e4⟩ := List.cons.inj e2
          subst e3
          refine .inl (.inl ⟨r, pc, c, g, hr, e1, hc, t, ?_, rfl⟩)
          rcases ht with ⟨rfl, h0⟩ | ⟨h1, d'⟩
          · exact .inl ⟨rfl, (List.append_eq_nil_iff.mp (e4.symm.trans h0)).1⟩
          · have e5 : pr = c ++ q := e4
            exact .inr ⟨h1, q, e5 ▸ d'⟩
  · rintro ((⟨r, pc, u', g, hr, rfl, hc, t, ht, rfl⟩ | ⟨w, rfl, h⟩) | ⟨r, hr, g, t, hs, ⟨q, d⟩, ht, rfl⟩)
    · rcases ht with ⟨rfl, rfl⟩ | ⟨h1, q, d⟩
      · exact ⟨[], by rw [List.append_nil]; exact Der.make hr hc (.inl ⟨rfl, rfl⟩)⟩
      · refine ⟨q, ?_⟩
        have := Der.make hr hc (.inr ⟨h1, d⟩)
        rw [List.append_assoc]
        exact this
    · exact ⟨[], .simple h⟩
    · rcases ht with rfl | ⟨h1, q2, d2⟩
      · exact ⟨q ++ [r.w], by rw [← List.append_assoc]; exact Der.make hr (.inr ⟨hs, d⟩) (.inl ⟨rfl, rfl⟩)⟩
      · exact ⟨q ++ r.w :: q2, by rw [← List.append_assoc]; exact Der.make hr (.inr ⟨hs, d⟩) (.inr ⟨h1, d2⟩)⟩

/-! ### one step of the search -/
/-- the greatest count that fits -/
def TopIs (r : Row W) (L top : Int) : Prop := (∀ m, r.most = some m → top ≤ m) ∧ top * r.v ≤ L ∧ ∀ g, (∀ m, r.most = some m → g ≤ m) → g * r.v ≤ L → g ≤ top
theorem laterR_none (ok : S.Ok) {u : List W} {r : Row W} (hr : r ∈ S.mult) {L top c : Int} (ht : TopIs r L top) (hc : IsMax (Poss S u) top c) (hn : ¬ Spoken r c) : IsMax (LaterR S u r) L 0 := by
  refine .none fun n _ hn2 h => hn ?_
  obtain ⟨g, t, hs, hp, htt, rfl⟩ := h
  have t0 : 0 ≤ t := by
    rcases htt with rfl | ⟨_, p⟩
    · exact Int.le_refl _
    · have := p.pos ok
      omega
  have hg : g ≤ top := ht.2.2 g hs.2 (by omega)
  rcases hc with ⟨rfl, h⟩ | ⟨h1, h2, h3, h4⟩
  · exact absurd hp (h g hs.pos hg)
  · exact ⟨Int.le_trans hs.1 (h4 g hg hp), fun m hm => Int.le_trans h2 (ht.1 m hm)⟩
theorem laterR_max (ok : S.Ok) {u : List W} {r : Row W} (hr : r ∈ S.mult) {L top c t : Int} (ht : TopIs r L top) (hc : IsMax (Poss S u) top c) (hs : Spoken r c) (hm : IsMax (Poss S []) (if L - c * r.v < r.rest then L - c * r.v else r.rest) t) :
    IsMax (LaterR S u r) L (c * r.v + t) := by
  have hv := (ok.mv r hr).1
  have hrr := ok.mr r hr
  rcases hc with ⟨rfl, h⟩ | ⟨h1, h2, h3, h4⟩
  · have := hs.pos
    omega
  · have hcv : c * r.v ≤ top * r.v := Int.mul_le_mul_of_nonneg_right h2 (by omega)
    have hcL : c * r.v ≤ L := Int.le_trans hcv ht.2.1
    have g1 := (gv_ge h1 hv).1
    have tb : 0 ≤ t ∧ t ≤ L - c * r.v ∧ t ≤ r.rest := by
      have hb := hm.bd
      refine ⟨hb.1, ?_, ?_⟩
      · rcases hb.2 with z | z
        · split at z <;> omega
        · omega
      · rcases hb.2 with z | z
        · split at z <;> omega
        · omega
    refine .inr ⟨by omega, by omega, ⟨c, t, hs, h3, ?_, rfl⟩, fun n hn hP => ?_⟩
    · rcases hm with ⟨rfl, _⟩ | ⟨_, _, p, _⟩
      · exact .inl rfl
      · exact .inr ⟨tb.2.2, p⟩
    · obtain ⟨g, t', hs', hp', ht', rfl⟩ := hP
      have t0 : 0 ≤ t' ∧ t' ≤ r.rest := by
        rcases ht' with rfl | ⟨z, p⟩
        · exact ⟨Int.le_refl _, hrr.1⟩
        · have := p.pos ok
          exact ⟨by omega, z⟩
      have hg : g ≤ top := ht.2.2 g hs'.2 (by omega)
      have hgc : g ≤ c := h4 g hg hp'
      by_cases e : g = c
      · subst e
        rcases ht' with rfl | ⟨z, p⟩
        · omega
        · rcases hm with ⟨rfl, k⟩ | ⟨_, _, _, k⟩
          · exact absurd p (k t' (p.pos ok) (by split <;> omega))
          · have := k t' (by split <;> omega) p
            omega
      · have : (g + 1) * r.v ≤ c * r.v := Int.mul_le_mul_of_nonneg_right (by omega) (by omega)
        rw [Int.add_mul, Int.one_mul] at this
        omega
theorem begunG_max (ok : S.Ok) {r : Row W} (hr : r ∈ S.mult) {g L f : Int} {u' : List W} (hg : 1 ≤ g) (hm : IsMax (Poss S u') (if L - g * r.v < r.rest then L - g * r.v else r.rest) f) (hn : ¬ (f = 0 ∧ u' ≠ [])) (hL : g * r.v ≤ L) :
    IsMax (BegunG S r g u') L (g * r.v + f) := by
  have hv := (ok.mv r hr).1
  have hrr := ok.mr r hr
  have g1 := (gv_ge hg hv).1
  have hb := hm.bd
  have tb : 0 ≤ f ∧ f ≤ L - g * r.v ∧ f ≤ r.rest := by
    refine ⟨hb.1, ?_, ?_⟩
    · rcases hb.2 with z | z
      · split at z <;> omega
      · omega
    · rcases hb.2 with z | z
      · split at z <;> omega
      · omega
  refine .inr ⟨by omega, by omega, ⟨f, ?_, rfl⟩, fun n hn' hP => ?_⟩
  · rcases hm with ⟨rfl, _⟩ | ⟨_, _, p, _⟩
    · by_cases h0 : u' = []
      · exact .inl ⟨rfl, h0⟩
      · exact absurd ⟨rfl, h0⟩ hn
    · exact .inr ⟨tb.2.2, p⟩
  · obtain ⟨t', ht', rfl⟩ := hP
    rcases ht' with ⟨rfl, _⟩ | ⟨z, p⟩
    · omega
    · rcases hm with ⟨rfl, k⟩ | ⟨_, _, _, k⟩
      · exact absurd p (k t' (p.pos ok) (by split <;> omega))
      · have := k t' (by split <;> omega) p
        omega
theorem begunG_none (ok : S.Ok) {r : Row W} {g L f : Int} {u' : List W} (hm : IsMax (Poss S u') (if L - g * r.v < r.rest then L - g * r.v else r.rest) f) (hn : (f = 0 ∧ u' ≠ []) ∨ ¬ g * r.v ≤ L) : IsMax (BegunG S r g u') L 0 := by
  refine .none fun n _ hn2 ⟨t, ht, e⟩ => ?_
  subst e
  have t0 : 0 ≤ t := by
    rcases ht with ⟨rfl, _⟩ | ⟨_, p⟩
    · exact Int.le_refl _
    · have := p.pos ok
      omega
  rcases hn with ⟨rfl, h0⟩ | h
  · rcases ht with ⟨_, h1⟩ | ⟨z, p⟩
    · exact h0 h1
    · rcases hm with ⟨_, k⟩ | ⟨k, _⟩
      · exact k t (p.pos ok) (by split <;> omega) p
      · omega
  · omega
theorem firstR_max (ok : S.Ok) {r : Row W} (hr : r ∈ S.mult) (hu : r.uns = true) {L t : Int} (hL : r.v ≤ L) (hm : IsMax (Poss S []) (if L - r.v < r.rest then L - r.v else r.rest) t) : IsMax (FirstR S r) L (r.v + t) := by
  have hv := (ok.mv r hr).1
  have hrr := ok.mr r hr
  have hb := hm.bd
  have tb : 0 ≤ t ∧ t ≤ L - r.v ∧ t ≤ r.rest := by
    refine ⟨hb.1, ?_, ?_⟩
    · rcases hb.2 with z | z
      · split at z <;> omega
      · omega
    · rcases hb.2 with z | z
      · split at z <;> omega
      · omega
  refine .inr ⟨by omega, by omega, ⟨hu, t, ?_, rfl⟩, fun n hn' hP => ?_⟩
  · rcases hm with ⟨rfl, _⟩ | ⟨_, _, p, _⟩
    · exact .inl rfl
    · exact .inr ⟨tb.2.2, p⟩
  · obtain ⟨_, t', ht', rfl⟩ := hP
    rcases ht' with rfl | ⟨z, p⟩
    · omega
    · rcases hm with ⟨rfl, k⟩ | ⟨_, _, _, k⟩
      · exact absurd p (k t' (p.pos ok) (by split <;> omega))
      · have := k t' (by split <;> omega) p
        omega
theorem firstR_none (ok : S.Ok) {r : Row W} {L : Int} (hn : ¬ (r.uns = true ∧ r.v ≤ L)) : IsMax (FirstR S r) L 0 := by
  refine .none fun n _ hn2 ⟨hu, t, ht, e⟩ => hn ⟨hu, ?_⟩
  subst e
  rcases ht with rfl | ⟨_, p⟩
  · omega
  · have := p.pos ok
    omega
/-- a row of rows, one after the other -/
theorem IsMax.snoc {α : Type} {Q : Int → Prop} {F : α → Int → Prop} {xs : List α} {x : α} {L a b : Int} (h : IsMax (fun n => Q n ∨ ∃ y ∈ xs, F y n) L a) (h' : IsMax (F x) L b) :
    IsMax (fun n => Q n ∨ ∃ y ∈ xs ++ [x], F y n) L (if b > a then b else a) := by
  refine (h.or h').congr fun n => ?_
  constructor
  · rintro ((q | ⟨y, hy, f⟩) | f)
    · exact .inl q
    · exact .inr ⟨y, List.mem_append_left _ hy, f⟩
    · exact .inr ⟨x, by simp, f⟩
  · rintro (q | ⟨y, hy, f⟩)
    · exact .inl (.inl q)
    · rcases List.mem_append.mp hy with z | z
      · exact .inl (.inr ⟨y, z, f⟩)
      · rw [List.mem_singleton.mp z] at f
        exact .inr f
theorem IsMax.le_of {Q : Int → Prop} {L a : Int} (h : IsMax Q L a) : (if (0 : Int) > a then 0 else a) = a := by
  rw [if_neg (by have := h.bd.1; omega)]

/-! ### how deep the search goes -/
def lim : Nat → Int
  | 0 => 0
  | n + 1 => if n < 8 then lim n + 1 else 2 * lim n + 1
theorem lim_small : ∀ n, n ≤ 8 → lim n = n
  | 0, _ => rfl
  | n + 1, h => by
    unfold lim
    rw [if_pos (by omega), lim_small n (by omega)]
    rfl
theorem lim_ge : ∀ n, 8 ≤ n → 8 ≤ lim n
  | 0, h => by omega
  | n + 1, h => by
    by_cases e : n < 8
    · have : n + 1 = 8 := by omega
      rw [this, lim_small 8 (Nat.le_refl _)]
      decide
    · unfold lim
      rw [if_neg e]
      have := lim_ge n (by omega)
      omega
theorem lim_27 : lim 27 = 4718591 := by decide
theorem lim_half {n : Nat} {L g v : Int} (h : L ≤ lim (n + 1)) (hv : 2 ≤ v) (hg : g * v ≤ L) (h0 : 0 ≤ lim n) : g ≤ lim n := by
  by_cases hg0 : g ≤ 0
  · omega
  have h2 := (gv_ge (g := g) (by omega) hv).2
  unfold lim at h
  split at h
  · omega
  · omega
theorem lim_nn : ∀ n, 0 ≤ lim n
  | 0 => by decide
  | n + 1 => by
    unfold lim
    have := lim_nn n
    split <;> omega
theorem lim_rest {n : Nat} {L g v rest : Int} (h : L ≤ lim (n + 1)) (hv : 2 ≤ v) (hg : 1 ≤ g) (hr : rest ≤ 8) : (if L - g * v < rest then L - g * v else rest) ≤ lim n := by
  have h2 := (gv_ge hg hv).1
  by_cases e : n < 8
  · unfold lim at h
    rw [if_pos e] at h
    split <;> omega
  · have := lim_ge n (by omega)
    split <;> omega
end
end K30
set_option Elab.async false
set_option linter.all false
set_option maxRecDepth 100000
set_option maxHeartbeats 2000000
/-! K30Hot: loops, unpacking, comprehensions wherever nothing is handled OR one known exception is. -/
namespace K30
open PySem PySem.Spec PyProof.Rows L2 L2H HotX

/-- nothing is handled, or an exception that stands in the heap with no context -/
def Quiet (A : Around) (h : Heap) : Prop := A.handled = none ∨ ∃ x, HotAt A x h
section
variable {prog : Program} {w : World} {A : Around} {E : Value → Shared → Prop} {s : Shared}
theorem Quiet.keeps {h h' : Heap} (q : Quiet A h) (k : ∀ b o, h.get? b = some o → h'.get? b = some o) : Quiet A h' := by
  rcases q with q | ⟨x, e, o, vs, a, b, c⟩
  · exact .inl q
  · exact .inr ⟨x, e, o, vs, k _ _ a, b, c⟩
/-- an object whose record has fewer than three places is not the handled exception -/
theorem Quiet.keepsBut {h h' : Heap} {it : Addr} {oi : Obj} {ws : Array Value} (q : Quiet A h) (hi : h.get? it = some oi) (hd : oi.data = .fields ws) (hs : ws.size ≤ 2) (k : ∀ b o, b ≠ it → h.get? b = some o → h'.get? b = some o) : Quiet A h' := by
  rcases q with q | ⟨x, e, o, vs, a, b, c⟩
  · exact .inl q
  · refine .inr ⟨x, e, o, vs, k _ _ (fun z => ?_) a, b, c⟩
    rw [z, hi] at a
    cases a
    rw [hd] at b
    cases b
    have : 2 < ws.size := (Array.getElem?_eq_some_iff.mp c).1
    omega
/-- the end of an iterator: a StopIteration is made and thrown -/
theorem stop_thrown {α : Type} {Q : α → Shared → Prop} (q : Quiet A s.heap)
    (hE : ∀ (h' : Heap) (e : Addr), (∀ b o, s.heap.get? b = some o → h'.get? b = some o) → (∃ o, h'.get? e = some o ∧ o.cls = .type "StopIteration") → E (.ref e) { s with heap := h' }) :
    wpAny (model prog w) A (newExc (.type "StopIteration") [] >>= fun e => raiseNew e) Q E s := by
  refine wpAny_bind ?_
  simp only [newExc, newTuple]
  refine wpAny_bind (wpAny_newObj_type ?_ (by size_fits))
  refine wpAny_bind (m := firstArgMember _ _) (wpAny_of_eq (a := Value.none) (by first | rfl | (simp only [firstArgMember]; rfl)) ?_)
  refine wpAny_newObj_type ?_ (by size_fits)
  rcases q with q | ⟨x, hx, o, vs, e1, e2, e3⟩
  · simp only [raiseNew]
    refine wpAny_bind (wpAny_handled ?_)
    rw [q]
    refine wpAny_bind (wpAny_pure (wpAny_throw (hE _ _ (fun b o e => Heap.get?_push_of_some _ (Heap.get?_push_of_some _ e)) ⟨_, Heap.get?_push_size _ rfl, rfl⟩)))
  · refine raiseNew_hot ⟨hx, o, vs, Heap.get?_push_of_some _ (Heap.get?_push_of_some _ e1), e2, e3⟩ (Nat.ne_of_lt (Heap.lt_size (Heap.get?_push_of_some _ e1))) (Heap.get?_push_size _ rfl) rfl (by first | (simp; done) | (simp; omega) | (simp only [Array.size_append]; simp; omega)) ?_
    refine hE _ _ (fun b u e => ?_) ⟨_, Heap.get?_update_self _ (Heap.get?_push_size _ rfl) rfl, rfl⟩
    rw [Heap.get?_update_other _ _ (Nat.ne_of_gt (Heap.lt_size (Heap.get?_push_of_some _ e)))]
    exact Heap.get?_push_of_some _ (Heap.get?_push_of_some _ e)
theorem next_list_end {it l : Addr} {i : Nat} {items : Array Value} {Q : Option Value → Shared → Prop} (q : Quiet A s.heap) (hit : s.heap.IsListIter it l i) (hl : s.heap.IsList l items) (hx : items[i]? = none)
    (hQ : ∀ h', Heap.ExtBut it s.heap h' → Q none { s with heap := h' }) : wpAny (model prog w) A (pyNext (.ref it)) Q E s := by
  have hT := hit.typeIs
  obtain ⟨o, ho, hc, hd⟩ := hit
  obtain ⟨ol, hol, _, nl, hdl⟩ := hl
  unfold pyNext
  refine wpAny_bind (wpAny_attempt (wpAny_callSpecial?_slot (name := Str.ofString "__next__") hT slot_listiter_next (wpAny_call_entry slot_listiter_next hT entry_listiter_next ?_ (args_listiter_next _))))
  show wpAny _ _ (field (.ref it) 0 >>= _) _ _ s
  refine wpAny_bind (wpAny_field ho hd (x := .ref l) rfl ?_)
  show wpAny _ _ (field (.ref it) 1 >>= _) _ _ s
  refine wpAny_bind (wpAny_field ho hd (x := .int i 0) rfl ?_)
  show wpAny _ _ (seqItems? (.ref l) >>= _) _ _ s
  refine wpAny_bind (wpAny_seqItems hol hdl ?_)
  simp only [Int.toNat_natCast, hx]
  refine wpAny_bind (wpAny_rule (wpAny_bind (wpAny_setField ho hd (by simp) ?_)))
  have sb : Heap.SameBut it s.heap (s.heap.update it (Obj.mapFields (·.setIfInBounds 0 Value.none))) := Heap.SameBut.update ..
  show wpAny _ _ (newExc (.type "StopIteration") [] >>= fun e => raiseNew e) _ _ _
  refine stop_thrown (A := A.in1) (s := { s with heap := s.heap.update it (Obj.mapFields (·.setIfInBounds 0 Value.none)) }) (Quiet.keepsBut (A := A.in1) q ho hd (by simp) fun b u hb e => (sb.2 b hb).trans e) fun h' e k ⟨oe, he, hce⟩ => ?_
  refine wpAny_bind (wpAny_isInstance (T := "StopIteration") (b := true) ⟨_, he, hce⟩ isSubtype_stop ?_)
  exact wpAny_pure (hQ _ fun b u hb e => k _ _ ((sb.2 b hb).trans e))
theorem next_tup_end {it t : Addr} {i : Nat} {items : Array Value} {Q : Option Value → Shared → Prop} (q : Quiet A s.heap) (hit : IsTupIter s.heap it t i) (hl : IsTup s.heap t items) (hx : items[i]? = none)
    (hQ : ∀ h', Heap.ExtBut it s.heap h' → Q none { s with heap := h' }) : wpAny (model prog w) A (pyNext (.ref it)) Q E s := by
  have hT := hit.typeIs
  obtain ⟨o, ho, hc, hd⟩ := hit
  obtain ⟨ol, hol, _, nl, hdl⟩ := hl
  unfold pyNext
  refine wpAny_bind (wpAny_attempt (wpAny_callSpecial?_slot (name := Str.ofString "__next__") hT slot_tupleiter_next (wpAny_call_entry slot_tupleiter_next hT entry_tupleiter_next ?_ (args_tupleiter_next _))))
  show wpAny _ _ (field (.ref it) 0 >>= _) _ _ s
  refine wpAny_bind (wpAny_field ho hd (x := .ref t) rfl ?_)
  show wpAny _ _ (field (.ref it) 1 >>= _) _ _ s
  refine wpAny_bind (wpAny_field ho hd (x := .int i 0) rfl ?_)
  show wpAny _ _ (seqItems? (.ref t) >>= _) _ _ s
  refine wpAny_bind (wpAny_seqItems hol hdl ?_)
  simp only [Int.toNat_natCast, hx]
  refine wpAny_bind (wpAny_rule (wpAny_bind (wpAny_setField ho hd (by simp) ?_)))
  have sb : Heap.SameBut it s.heap (s.heap.update it (Obj.mapFields (·.setIfInBounds 0 Value.none))) := Heap.SameBut.update ..
  show wpAny _ _ (newExc (.type "StopIteration") [] >>= fun e => raiseNew e) _ _ _
  refine stop_thrown (A := A.in1) (s := { s with heap := s.heap.update it (Obj.mapFields (·.setIfInBounds 0 Value.none)) }) (Quiet.keepsBut (A := A.in1) q ho hd (by simp) fun b u hb e => (sb.2 b hb).trans e) fun h' e k ⟨oe, he, hce⟩ => ?_
  refine wpAny_bind (wpAny_isInstance (T := "StopIteration") (b := true) ⟨_, he, hce⟩ isSubtype_stop ?_)
  exact wpAny_pure (hQ _ fun b u hb e => k _ _ ((sb.2 b hb).trans e))
/-- the unpacking of a tuple -/
theorem unpack_all {t : Addr} {items : Array Value} {Q : List Value → Shared → Prop} (q : Quiet A s.heap) (ht : IsTup s.heap t items)
    (hQ : ∀ h', Heap.ExtBut s.heap.objs.size s.heap h' → Q items.toList { s with heap := h' }) : wpAny (model prog w) A (unpackItems (.ref t) items.size none) Q E s := by
  have hlt : t ≠ s.heap.objs.size := by
    obtain ⟨o, ho, _⟩ := ht
    exact Nat.ne_of_lt (Heap.lt_size ho)
  unfold unpackItems notIterableAtAll
  refine wpAny_bind (wpAny_bind (wpAny_specialOf ht.typeIs slot_tuple_iter.lookup (wpAny_pure ?_)))
  simp only [Bool.false_eq_true, if_false]
  refine wpAny_bind (wpAny_holding (iter_tuple ht ?_))
  refine wpAny_bind (wpAny_holding (draw_tuple hlt items.size 0 _ _ ⟨_, Heap.get?_push_size _ rfl, rfl, rfl⟩ (ht.push _) (by omega) fun h1 hit1 hs1 => ?_))
  have hall : List.take items.size (List.drop 0 items.toList) = items.toList := by
    rw [List.drop_zero]
    exact List.take_of_length_le (by simp)
  rw [hall, if_neg (by simp)]
  have q1 : Quiet A h1 := (q.keeps fun b o e => Heap.get?_push_of_some _ e).keepsBut (Heap.get?_push_size _ rfl) rfl (by simp) fun b o hb e => (hs1.2 b hb).trans e
  refine wpAny_bind (wpAny_holding (next_tup_end q1 hit1 ((ht.push _).extBut hs1.extBut hlt) (by simp) fun h2 he2 => ?_))
  simp only [Option.isSome_none, Bool.false_eq_true, if_false]
  exact wpAny_pure (hQ h2 fun b o hb e => he2 b o hb (hs1.extBut b o hb (Heap.get?_push_of_some _ e)))
theorem assign_tup {env : Env} {elts : List Expr} {x1} {pos : Pos} {t : Addr} {items : Array Value} {Q : Unit → Shared → Prop} (q : Quiet A s.heap) (ht : IsTup s.heap t items)
    (hn : (assignEach elts env).length = items.size) (hst : (assignEach elts env).findIdx? (·.1) = none)
    (h : ∀ h', Heap.ExtBut s.heap.objs.size s.heap h' → wpAny (model prog w) A (assignInOrder ((assignEach elts env).map (·.2)) items.toList) Q E { s with heap := h' }) :
    wpAny (model prog w) A (assign (.Tuple elts x1 pos) env (.ref t)) Q E s := by
  rw [assign_Tuple]
  unfold unpack
  rw [hn, hst]
  exact wpAny_bind (wpAny_standAt (wpAny_bind (wpAny_holding (unpack_all q ht h))))
end

/-! ### the contexts -/
/-- calm, or hot with the exception borne -/
def HC (X : Cx) : Prop := X.calm = true ∨ HotC X
theorem HC.quiet {X : Cx} {pins : List (Addr × Obj)} {σ : L2.St} {H : Hp} {s : Shared} (c : HC X) (I : Inv X pins σ H s) : Quiet X.A s.heap := by
  rcases c with c | c
  · exact .inl (I.ok.hd c)
  · exact .inr (c.at I)
section
variable {X : Cx} {pos : Pos}
theorem pg_tup {es : List Expr} {k : Nat} {t : TGs} {n : Nat} (hc : HC X) (h : PGs X es t)
    (hn : (assignEach es X.env).length = n := by rfl) (hst : (assignEach es X.env).findIdx? (·.1) = none := by rfl) : PG X (.Tuple es k pos) (gTup X.K n t) := by
  refine ⟨fun pins s σ H v u Q I r hw => ?_⟩
  obtain ⟨a, xs, e1, hq, hl, hw⟩ := hw
  subst e1
  cases r
  obtain ⟨its, rv, ht, hz⟩ := I.tuple hq
  refine assign_tup (hc.quiet I) ht (by simp [hn, ← hl, rv.length]) hst fun h' hx => ?_
  exact h.run pins _ σ H xs _ Q (I.kept (t' := s.toks) fun b o e => hx b o (Nat.ne_of_lt (Heap.lt_size e)) e) (by simpa using rv) hw
end

/-! ### what a loop walks -/
/-- as Turn, TurnH: the turns of an iterator, nothing or one known exception handled -/
structure TurnG (P : Program) (w : World) (K : PySem.W.Frag) (tg : Expr) (J : It) (fp : List Addr) (it : Addr) (tn : Nat → Heap → Prop) : Prop where
  mem : it ∈ fp
  obj : ∀ i h, tn i h → ∀ b ∈ fp, ∃ o, h.get? b = some o ∧ ∀ v, o.data ≠ .cell v
  keep : ∀ i h h', tn i h → (∀ b ∈ fp, ∀ o, h.get? b = some o → h'.get? b = some o) → tn i h'
  item : ∀ (X : Cx), X.prog = P → X.w = w → X.K = K → HC X → ∀ (i : Nat) (pins : List (Addr × Obj)) (s : Shared) (σ : L2.St) (H : Hp) (E : Value → Shared → Prop), Inv X pins σ H s → (∀ b ∈ fp, FpOk X pins H b) → tn i s.heap → J.go i H →
    wpAny (model P w) X.A (pyNext (.ref it)) (fun r s1 => ∃ u, r = some u ∧
      wpAny (model P w) X.A (letOwnedTupleGo tg (.ref it) u) (fun _ s2 => ∃ x H', Inv X pins σ H' s2 ∧ RelV x u ∧ J.yld i H x H' ∧ tn (i + 1) s2.heap ∧ ∀ b ∈ fp, H' b = none) E s1) E s
  done : ∀ (X : Cx), X.prog = P → X.w = w → X.K = K → HC X → ∀ (i : Nat) (pins : List (Addr × Obj)) (s : Shared) (σ : L2.St) (H : Hp) (E : Value → Shared → Prop), Inv X pins σ H s → (∀ b ∈ fp, FpOk X pins H b) → tn i s.heap → J.stop i H →
    wpAny (model P w) X.A (pyNext (.ref it)) (fun r s1 => r = none ∧ Inv X pins σ H s1) E s
  self : ∀ (A : Around) (i : Nat) (s : Shared) (Q : Value → Shared → Prop) (E : Value → Shared → Prop), tn i s.heap → Q (.ref it) s → wpAny (model P w) A (pyIter (.ref it)) Q E s
section
variable {P : Program} {w : World} {K : PySem.W.Frag} {tg : Expr} {J : It} {fp : List Addr} {it : Addr} {tn : Nat → Heap → Prop}
theorem TurnG.calm (T : TurnG P w K tg J fp it tn) : Turn P w K tg J fp it tn :=
  ⟨T.mem, T.obj, T.keep, fun X a b c d => T.item X a b c (.inl d), fun X a b c d => T.done X a b c (.inl d), T.self⟩
theorem TurnG.hot (T : TurnG P w K tg J fp it tn) : TurnH P w K tg J fp it tn :=
  ⟨T.mem, T.obj, T.keep, fun X a b c d => T.item X a b c (.inr d), fun X a b c d => T.done X a b c (.inr d), T.self⟩
end
theorem turnG_list {P : Program} {w : World} {K : PySem.W.Frag} {tg : Expr} (a it : Addr) : TurnG P w K tg (Itl K a) [it] it (fun i h => h.IsListIter it a i) where
  mem := (turn_list (P := P) (w := w) (K := K) (tg := tg) a it).mem
  obj := (turn_list (P := P) (w := w) (K := K) (tg := tg) a it).obj
  keep := (turn_list (P := P) (w := w) (K := K) (tg := tg) a it).keep
  self := (turn_list (P := P) (w := w) (K := K) (tg := tg) a it).self
  item := by
    rintro X rfl rfl rfl _ i pins s σ H E I hf st ⟨xs, x, hq, hx⟩
    obtain ⟨its, rv, p, _⟩ := I.list hq
    obtain ⟨u, hu, ru⟩ := rv.get hx
    obtain ⟨f0, f1, f2, f3, f4, f5⟩ := hf it List.mem_cons_self
    refine wpAny_pyNext_list_item st p.isList (x := u) (by simpa using hu) fun h' st' sb => ⟨u, rfl, ?_⟩
    obtain ⟨o, e, c, d⟩ := id st'
    refine go_of (s := { s with heap := h' }) e c d (by decide) ⟨x, H, I.turned (t' := s.toks) (fun b o hb e => (sb.2 b hb).trans e) f0 f1 f3 f4 f5, ru, ⟨rfl, fun ys hy => ?_⟩, st', fun b hb => (hf b hb).1⟩
    rw [I.list_inj hy hq]
    exact hx
  done := by
    rintro X rfl rfl rfl hc i pins s σ H E I hf st ⟨xs, hq, hx⟩
    obtain ⟨its, rv, p, _⟩ := I.list hq
    obtain ⟨f0, f1, f2, f3, f4, f5⟩ := hf it List.mem_cons_self
    have hl := rv.length
    exact next_list_end (hc.quiet I) st p.isList (by simp; omega) fun h' eb => ⟨rfl, I.turned (t' := s.toks) (fun b o hb e => eb b o hb e) f0 f1 f3 f4 f5⟩
theorem turnG_tuple {P : Program} {w : World} {K : PySem.W.Frag} {tg : Expr} (a it : Addr) : TurnG P w K tg (Itt K a) [it] it (fun i h => h.IsTupleIter it a i) where
  mem := (turn_tuple (P := P) (w := w) (K := K) (tg := tg) a it).mem
  obj := (turn_tuple (P := P) (w := w) (K := K) (tg := tg) a it).obj
  keep := (turn_tuple (P := P) (w := w) (K := K) (tg := tg) a it).keep
  self := (turn_tuple (P := P) (w := w) (K := K) (tg := tg) a it).self
  item := by
    rintro X rfl rfl rfl _ i pins s σ H E I hf st ⟨xs, x, hq, hx⟩
    obtain ⟨its, rv, p, _⟩ := I.tuple hq
    obtain ⟨u, hu, ru⟩ := rv.get hx
    obtain ⟨f0, f1, f2, f3, f4, f5⟩ := hf it List.mem_cons_self
    refine wpAny_pyNext_tuple_item st (show s.heap.IsTuple a its.toArray from p) (x := u) (by simpa using hu) fun h' st' sb => ⟨u, rfl, ?_⟩
    obtain ⟨o, e, c, d⟩ := id st'
    refine go_of (s := { s with heap := h' }) e c d (by decide) ⟨x, H, I.turned (t' := s.toks) (fun b o hb e => (sb.2 b hb).trans e) f0 f1 f3 f4 f5, ru, ⟨rfl, fun ys hy => ?_⟩, st', fun b hb => (hf b hb).1⟩
    rw [I.tuple_inj hy hq]
    exact hx
  done := by
    rintro X rfl rfl rfl hc i pins s σ H E I hf st ⟨xs, hq, hx⟩
    obtain ⟨its, rv, p, _⟩ := I.tuple hq
    obtain ⟨f0, f1, f2, f3, f4, f5⟩ := hf it List.mem_cons_self
    have hl := rv.length
    exact next_tup_end (hc.quiet I) st p (by simp; omega) fun h' eb => ⟨rfl, I.turned (t' := s.toks) (fun b o hb e => eb b o hb e) f0 f1 f3 f4 f5⟩
theorem turnG_range {P : Program} {w : World} {K : PySem.W.Frag} {tg : Expr} (it : Addr) (lo : Int) (n : Nat) : TurnG P w K tg (Itr lo n) [it] it (fun i h => IsRangeIter h it (lo + (i : Nat) * 1) ((n : Int) - (i : Nat)) 1) where
  mem := (turn_range (P := P) (w := w) (K := K) (tg := tg) it lo n).mem
  obj := (turn_range (P := P) (w := w) (K := K) (tg := tg) it lo n).obj
  keep := (turn_range (P := P) (w := w) (K := K) (tg := tg) it lo n).keep
  self := (turn_range (P := P) (w := w) (K := K) (tg := tg) it lo n).self
  item := fun X a b c d => d.elim (fun d => (turn_range (tg := tg) it lo n).item X a b c d) fun d => (turn_rangeH (tg := tg) it lo n).item X a b c d
  done := fun X a b c d => d.elim (fun d => (turn_range (tg := tg) it lo n).done X a b c d) fun d => (turn_rangeH (tg := tg) it lo n).done X a b c d
def PIEG (X : Cx) (pins : List (Addr × Obj)) (σ : L2.St) (tg : Expr) (R : It → Hp → Prop) (itv : Value) (s2 : Shared) : Prop :=
  ∃ (it : Addr) (fp : List Addr) (tn : Nat → Heap → Prop) (J : It) (H' : Hp), itv = .ref it ∧ Inv X pins σ H' s2 ∧ TurnG X.prog X.w X.K tg J fp it tn ∧ tn 0 s2.heap ∧ (∀ b ∈ fp, FpOk X pins H' b) ∧ R J H'
structure PIG (X : Cx) (tg iter : Expr) (wi : TI) : Prop where
  run : ∀ (pins : List (Addr × Obj)) (s : Shared) (σ : L2.St) (H : Hp) (R : It → Hp → Prop), Inv X pins σ H s → wi σ H R →
    wpAny (model X.prog X.w) X.A (eval iter X.env) (fun v s1 => wpAny (model X.prog X.w) X.A (pyIter v) (PIEG X pins σ tg R) X.xe s1) X.xe s
section
variable {X : Cx} {tg iter : Expr} {wi : TI}
theorem PIG.pi (h : PIG X tg iter wi) : PI X tg iter wi := ⟨fun pins s σ H R I q => thn (h.run pins s σ H R I q) fun v s1 q1 => thn q1 fun u s2 ⟨it, fp, tn, J, H', a, b, T, c⟩ => ⟨it, fp, tn, J, H', a, b, T.calm, c⟩⟩
theorem PIG.pih (h : PIG X tg iter wi) : PIH X tg iter wi := ⟨fun pins s σ H R I q => thn (h.run pins s σ H R I q) fun v s1 q1 => thn q1 fun u s2 ⟨it, fp, tn, J, H', a, b, T, c⟩ => ⟨it, fp, tn, J, H', a, b, T.hot, c⟩⟩
theorem pig_list {l : Expr} {tl : TE} (hl : PE X l tl) : PIG X tg l (iList X.K tl) := by
  refine ⟨fun pins s σ H R I h => thn (hl.run pins s σ H _ I h) fun v s1 q1 => ?_⟩
  obtain ⟨x, H1, I1, r1, a, rfl, ⟨xs, hq⟩, q⟩ := q1
  cases r1
  obtain ⟨its, rv, p, _⟩ := I1.list hq
  refine wpAny_pyIter_list p.isList ⟨s1.heap.objs.size, [s1.heap.objs.size], _, _, H1, rfl, I1.kept (t' := s1.toks) fun b o e => Heap.get?_push_of_some _ e, turnG_list a _, ⟨_, Heap.get?_push_size _ rfl, rfl, rfl⟩, fun b hb => ?_, q⟩
  obtain rfl : b = s1.heap.objs.size := List.mem_singleton.mp hb
  exact I1.fpOk (Nat.le_refl _) (I1.hok.fresh (Nat.le_refl _))
theorem pig_tup {l : Expr} {tl : TE} (hl : PE X l tl) : PIG X tg l (iTup X.K tl) := by
  refine ⟨fun pins s σ H R I h => thn (hl.run pins s σ H _ I h) fun v s1 q1 => ?_⟩
  obtain ⟨x, H1, I1, r1, a, rfl, ⟨xs, hq⟩, q⟩ := q1
  cases r1
  obtain ⟨its, rv, p, _⟩ := I1.tuple hq
  refine wpAny_pyIter_tuple (show s1.heap.IsTuple a its.toArray from p) ⟨s1.heap.objs.size, [s1.heap.objs.size], _, _, H1, rfl, I1.kept (t' := s1.toks) fun b o e => Heap.get?_push_of_some _ e, turnG_tuple a _, ⟨_, Heap.get?_push_size _ rfl, rfl, rfl⟩, fun b hb => ?_, q⟩
  obtain rfl : b = s1.heap.objs.size := List.mem_singleton.mp hb
  exact I1.fpOk (Nat.le_refl _) (I1.hok.fresh (Nat.le_refl _))
theorem rangeG {pins : List (Addr × Obj)} {σ : L2.St} {H : Hp} {s : Shared} {R : It → Hp → Prop} {E : Value → Shared → Prop} {lo hi : Int} {t u v : Tok} {tk : Nat} (I : Inv X pins σ H s) (h1 : -(2 ^ 62) ≤ lo) (h2 : lo < 2 ^ 62) (h3 : -(2 ^ 62) ≤ hi) (h4 : hi < 2 ^ 62)
    (q : R (Itr lo (hi - lo).toNat) H) : wpAny (model X.prog X.w) X.A (pyIter (.ref s.heap.objs.size)) (PIEG X pins σ tg R) E { s with heap := s.heap.push { cls := .type "range", data := .fields #[.int lo t, .int hi u, .int 1 v] }, toks := tk } := by
  generalize hh : s.heap.push { cls := .type "range", data := .fields #[.int lo t, .int hi u, .int 1 v] } = h1'
  have I1 : Inv X pins σ H { s with heap := h1', toks := tk } := by
    rw [← hh]
    exact I.kept fun b o e => Heap.get?_push_of_some _ e
  refine wpAny_pyIter_range (by rw [← hh]; exact IsRange.new ..) (small_one h1 h2 h3 h4) ?_
  refine ⟨h1'.objs.size, [h1'.objs.size], _, _, H, rfl, I1.kept (t' := tk) fun b o e => Heap.get?_push_of_some _ e, turnG_range _ lo (hi - lo).toNat, ?_, fun b hb => ?_, q⟩
  · have e1 : lo + ((0 : Nat) : Int) * 1 = lo := by simp
    have e2 : (((hi - lo).toNat : Nat) : Int) - ((0 : Nat) : Int) = Builtin.Range.rangeSize lo hi 1 := by
      rw [rangeSize_one]
      split <;> omega
    show IsRangeIter _ _ (lo + ((0 : Nat) : Int) * 1) ((((hi - lo).toNat : Nat) : Int) - ((0 : Nat) : Int)) 1
    rw [e1, e2]
    exact Heap.get?_push_size _ rfl
  · obtain rfl : b = h1'.objs.size := List.mem_singleton.mp hb
    exact I1.fpOk (Nat.le_refl _) (I1.hok.fresh (Nat.le_refl _))
theorem pig_range1 {a : Expr} {ta : TA} {p pos : Pos} (hg : Gl X "range") (hm : X.mg "range" = none) (ha : PA X [a] ta) (hs : starEach [a] X.env = [(false, eval a X.env)] := by rfl) : PIG X tg (.Call (.Name "range" p) [a] [] pos) (iRng1 ta) := by
  refine ⟨fun pins s σ H R I h => Call_ (ld_blt I hg hm boot_range (callWith_type1 (thn (ha.run pos pins s σ H _ I h) fun us s1 q1 => ?_) hs rfl))⟩
  obtain ⟨vs, H1, I1, r1, j, rfl, b1, b2, q⟩ := q1
  cases r1 with
  | cons r rr =>
    cases rr
    obtain ⟨t, rfl⟩ := r
    exact call_range_1 (rangeG I1 (by omega) (by omega) b1 b2 (by simpa using q))
theorem pig_range2 {a b : Expr} {ta : TA} {p pos : Pos} (hg : Gl X "range") (hm : X.mg "range" = none) (ha : PA X [a, b] ta) (hs : starEach [a, b] X.env = [(false, eval a X.env), (false, eval b X.env)] := by rfl) (hs2 : starEach [b] X.env = [(false, eval b X.env)] := by rfl) :
    PIG X tg (.Call (.Name "range" p) [a, b] [] pos) (iRng2 ta) := by
  refine ⟨fun pins s σ H R I h => Call_ (ld_blt I hg hm boot_range (callWith_type1 (thn (ha.run pos pins s σ H _ I h) fun us s1 q1 => ?_) (by rw [hs, hs2]) (by rw [hs2]; rfl)))⟩
  obtain ⟨vs, H1, I1, r1, i, j, rfl, ⟨b1, b2, b3, b4⟩, q⟩ := q1
  cases r1 with
  | cons r rr =>
    cases rr with
    | cons r' rr =>
      cases rr
      obtain ⟨t, rfl⟩ := r
      obtain ⟨t', rfl⟩ := r'
      exact call_range_2 (rangeG I1 b1 b2 b3 b4 q)
theorem psg_for {body : List Stmt} {g : TG} {tb : TS} {pos : Pos} (hp : PassesOwn (model X.prog X.w) X.A X.env X.xe) (hc : HC X) (hi : PIG X tg iter wi) (hg : PG X tg g) (hb : PSs X body tb)
    (hs : ∀ x, foldedSetIterable iter X.env x = pure x := by intro _; rfl) : PS X (.For tg iter body [] pos) (tFor wi g tb) :=
  hc.elim (fun c => ps_for hp c hi.pi hg hb hs) fun c => ps_forH hp c hi.pih hg hb hs
end

/-! ### list comprehensions -/
/-- a comprehension's block that bears what its def bears -/
abbrev blkP (X : Cx) (s : Shared) (H : Hp) (scope : Scope) (cenv : Env) (fp : List Addr) : Cx := { X.blk s H scope cenv fp with pn := X.pn }
theorem HC.blkP {X : Cx} (c : HC X) (s : Shared) (H : Hp) (scope : Scope) (cenv : Env) (fp : List Addr) : HC (blkP X s H scope cenv fp) := c
theorem ok_pn {X : Cx} (ok : X.Ok) (pn : List (Addr × Obj)) : ({ X with pn := pn } : Cx).Ok := by
  obtain ⟨a1, a2, a3, a4, a5, a6, a7, a8, a9, a10, a11, a12, a13, a14, a15, a16, a17, a18⟩ := ok
  exact ⟨a1, a2, a3, a4, a5, a6, a7, a8, a9, a10, a11, a12, a13, a14, a15, a16, a17, a18⟩
section
variable {X : Cx} {σ : L2.St} {H : Hp} {s : Shared}
theorem inv_pn {pn pn' pins : List (Addr × Obj)} (I : Inv { X with pn := pn } pins σ H s)
    (h : ∀ p ∈ pn', s.heap.get? p.1 = some p.2 ∧ H p.1 = none ∧ p.1 ≠ X.env.locals ∧ p.1 ∉ X.fs ∧ ∀ v, p.2.data ≠ .cell v) : Inv { X with pn := pn' } pins σ H s := by
  obtain ⟨b1, b2, b3, b4, b5, b6, b7, b8, b9, b10, b11⟩ := I
  refine ⟨ok_pn b1 pn', b2, b3, b4, b5, b6, b7, b8, fun p hp => ?_, b10, b11⟩
  rcases List.mem_append.mp hp with z | z
  · exact h p z
  · exact b9 p (List.mem_append_right _ z)
theorem block_begins {pins : List (Addr × Obj)} {scope : Scope} {own : List (Str × Nat)} {fp : List Addr} (I : Inv X pins σ H s) (ok : BlkOk X.N X.env.scope scope own) (hN : X.N.Nodup) (hfp : ∀ b ∈ fp, FpOk X pins H b ∧ b < s.heap.objs.size) :
    Inv (blkP X s H scope (compEnvC scope (cellsFrom (s.heap.objs.size + 1) scope.names (cloFrom X.env.cells scope.names [])) s.heap.objs.size X.env) fp) [] (wipe σ (own.map (·.2))) H { s with heap := pushCells (s.heap.push { cls := .type "dict", data := .dict #[] }) scope.names } := by
  refine inv_pn (block_start I ok hN hfp) fun p hp => ?_
  obtain ⟨e, n, ne, nf, d⟩ := I.pin p (List.mem_append_left _ hp)
  refine ⟨pushCells_keeps _ _ _ _ (Heap.get?_push_of_some _ e), n, Nat.ne_of_lt (Heap.lt_size e), fun z => ?_, d⟩
  exact (List.mem_cons.mp (I.stkSub p.1 z)).elim ne nf
/-- the block's end, or an item more: what stays of a turn -/
theorem lcG_core {pins : List (Addr × Obj)} {Q : VK} {elt tg iter : Expr} {ifs : List Expr} {scope : Scope} {own : List (Str × Nat)} {pos pos' : Pos} {wi : TI} {g : TG} {tt : TT} {te : TE} {use : Option (Value → Sem Unit)} {Qf : Value → Shared → Prop}
    (hc : HC X) (hN : X.N.Nodup) (I : Inv X pins σ H s) (hi : PIG X tg iter wi) (ok : BlkOk X.N X.env.scope scope own)
    (hg : ∀ s H C cl fp, PG (blkP X s H scope (compEnvC scope cl C X.env) fp) tg g) (ht : ∀ s H C cl fp, PTs (blkP X s H scope (compEnvC scope cl C X.env) fp) ifs tt)
    (he : ∀ s H C cl fp, PE (blkP X s H scope (compEnvC scope cl C X.env) fp) elt te) (hs : ∀ x, foldedSetIterable iter X.env x = pure x)
    (h : tLc wi g tt te (own.map (·.2)) σ H Q)
    (hRR : ∀ D C s' m H', Inv X pins σ H' s' → Q (.ref D) H' → s'.heap.Ns C m → FpOk X pins H' C → compPost (model X.prog X.w) X.A X.xe use Qf (.ref D) C (.ok .next) s') :
    wpAny (model X.prog X.w) X.A (comprehension (.ListComp elt [⟨tg, iter, ifs, 0⟩] scope pos) scope X.env pos' (newList []) false (eval iter X.env) use) Qf X.xe s := by
  have hfree : ∀ y ∈ scope.names, y.2 = .free → ∃ c, X.env.cells.lookup y.1 = some c := fun y hy e => (ok.free y hy e).elim (fun k => I.ok.has _ (.inl k)) fun k => I.ok.has _ (.inr k)
  refine wpAny_comprehension_free (use := use) rfl hs (closure_ok hfree) ok.kind (fun y hy e => by rw [ok.uniq y hy, e]) ?_
  refine thn (hi.run pins s σ H _ I h) fun xv s1 hx => thn hx fun itv s2 h2 => ?_
  obtain ⟨it, fp, tn, J, H2, rfl, I2, T, st2, f2, q⟩ := h2
  refine wpAny_newObj_type (newEnv_comp ?_) (by show 0 ≤ sizeLine; decide)
  obtain ⟨D, hD⟩ : ∃ D, D = s2.heap.objs.size := ⟨_, rfl⟩
  rw [← hD]
  obtain ⟨W, ⟨m0, w0⟩, turn⟩ := q D (I2.hok.fresh (Nat.le_of_eq hD.symm))
  obtain ⟨s3, hs3⟩ : ∃ s3 : Shared, s3 = { s2 with heap := s2.heap.push { cls := .type "list", data := .seq ([] : List Value).toArray } } := ⟨_, rfl⟩
  obtain ⟨H3, hH3⟩ : ∃ H3, H3 = upd H2 D (.lst []) := ⟨_, rfl⟩
  have e3 : s3.heap = s2.heap.push { cls := .type "list", data := .seq ([] : List Value).toArray } := by rw [hs3]
  have I3 : Inv X pins σ H3 s3 := by
    rw [hs3, hH3]
    refine I2.laid (t' := s2.toks) (fun b o e => Heap.get?_push_of_some _ e) (Nat.le_of_eq hD.symm) ⟨Nat.zero_le _, [], 0, .nil, ?_⟩
    rw [hD]
    exact Heap.get?_push_size _ rfl
  have f3 : ∀ b ∈ fp, FpOk X pins H3 b ∧ b < s3.heap.objs.size := fun b hb => by
    obtain ⟨o, e, _⟩ := T.obj _ _ st2 b hb
    have hlt := Heap.lt_size e
    refine ⟨⟨?_, (f2 b hb).2⟩, by rw [e3, Heap.size_push]; exact Nat.lt_succ_of_lt hlt⟩
    rw [hH3, upd_ne (by rw [hD]; exact Nat.ne_of_lt hlt)]
    exact (f2 b hb).1
  have st3 : tn 0 s3.heap := T.keep _ _ _ st2 fun b _ o e => by
    rw [e3]
    exact Heap.get?_push_of_some _ e
  have I4 := block_begins I3 ok hN f3
  rw [← hs3]
  rw [← hH3] at w0
  generalize hcl : cellsFrom (s3.heap.objs.size + 1) scope.names (cloFrom X.env.cells scope.names []) = cl at I4 ⊢
  have pg := hg s3 H3 s3.heap.objs.size cl fp
  have pt := ht s3 H3 s3.heap.objs.size cl fp
  have pe := he s3 H3 s3.heap.objs.size cl fp
  show codeAny _ _ (.compStart (.ListComp elt [⟨tg, iter, ifs, 0⟩] scope pos) 0 (.ref it) (.ref D) (compEnvC scope cl s3.heap.objs.size X.env)) (compPost (model X.prog X.w) X.A X.xe use Qf (.ref D) s3.heap.objs.size) { s3 with heap := pushCells (s3.heap.push { cls := .type "dict", data := .dict #[] }) scope.names }
  obtain ⟨ce, hce⟩ : ∃ ce, ce = compEnvC scope cl s3.heap.objs.size X.env := ⟨_, rfl⟩
  have cL : ce.locals = s3.heap.objs.size := by rw [hce]; rfl
  rw [← hce] at pg pt pe I4 ⊢
  have st4 : tn 0 (pushCells (s3.heap.push { cls := .type "dict", data := .dict #[] }) scope.names) := T.keep _ _ _ st3 fun b _ o e => pushCells_keeps _ _ _ _ (Heap.get?_push_of_some _ e)
  have hcB : HC (blkP X s3 H3 scope ce fp) := hc
  have nfp : ∀ b ∈ fp, H3 b = none := fun b hb => (f3 b hb).1.1
  have stat : ∀ {σ' : L2.St} {H' : Hp} {s' : Shared}, Inv (blkP X s3 H3 scope ce fp) [] σ' H' s' → (∀ b ∈ fp, H' b = none) → ∀ b ∈ fp, FpOk (blkP X s3 H3 scope ce fp) [] H' b := fun I' hn b hb =>
    ⟨hn b hb, (I'.ok.exf b hb).1, I'.ok.exfs b hb, .inl hb, fun x c e => (I'.ok.exf b hb).2 x c e, fun p hp => (f3 b hb).1.2.2.2.2.2 p (List.mem_append_left _ (by simpa using hp))⟩
  have loop : codeAny (model X.prog X.w) X.A (.compLoop (.ListComp elt [⟨tg, iter, ifs, 0⟩] scope pos) 0 (.ref it) (.ref D) ce) (compPost (model X.prog X.w) X.A X.xe use Qf (.ref D) s3.heap.objs.size)
      { s3 with heap := pushCells (s3.heap.push { cls := .type "dict", data := .dict #[] }) scope.names } := by
    refine compLoop_any (fun n s' => ∃ i H', Inv (blkP X s3 H3 scope ce fp) [] (wipe σ (own.map (·.2))) H' s' ∧ tn i s'.heap ∧ (∀ b ∈ fp, H' b = none) ∧ W i n H') ?_ m0 ⟨0, H3, I4, st4, nfp, w0⟩
    rintro n s5 ⟨i, H5, I5, st5, n5, w5⟩
    rcases turn i n H5 w5 with ⟨stop, qq⟩ | ⟨go, Nx, hNx, step⟩
    · refine thnF (T.done (blkP X s3 H3 scope ce fp) rfl rfl rfl hcB i [] s5 _ H5 (fun _ _ => False) I5 (stat I5 n5) st5 stop) fun r s6 hr6 => ?_
      obtain ⟨hr, I6⟩ := hr6
      rw [hr]
      have I7 : Inv X pins σ H5 s6 := I3.call' (ch := fp) I6.os I6.base I6.hok I6.bare fun b hb =>
        let z := (f3 b hb).1.2
        ⟨z.2.2.1, z.1, z.2.2.2.1, z.2.2.2.2⟩
      obtain ⟨m, hn, _⟩ := I6.loc
      have hn' : s6.heap.Ns s3.heap.objs.size m := cL ▸ hn
      have nC : H5 s3.heap.objs.size = none := cL ▸ (show H5 ce.locals = none from I6.free)
      exact hRR D s3.heap.objs.size s6 m H5 I7 qq hn' (I3.fpOk (Nat.le_refl _) nC)
    · refine thnF (T.item (blkP X s3 H3 scope ce fp) rfl rfl rfl hcB i [] s5 _ H5 (fun _ _ => False) I5 (stat I5 n5) st5 go) fun r s6 hr6 => ?_
      obtain ⟨u, hr, h6⟩ := hr6
      rw [hr]
      refine thnF h6 fun _ s7 h7 => ?_
      obtain ⟨x, H7, I7, r7, y7, st7, n7⟩ := h7
      refine thnF (pg.run _ s7 _ H7 x u _ (I7.pinned (stat I7 n7) (T.obj _ _ st7)) r7 (step x H7 y7)) fun _ s8 h8 => ?_
      obtain ⟨σ8, H8, I8, hw8, q8⟩ := h8
      refine thnF (pt.run _ s8 σ8 H8 _ I8 q8) fun b s9 h9 => ?_
      obtain ⟨H9, I9, q9⟩ := h9
      have fin : ∀ {s' : Shared} {H' : Hp}, Inv (blkP X s3 H3 scope ce fp) ([] ++ pinsAt fp s7.heap) σ8 H' s' → Nx H' → ∃ m, m < n ∧ ∃ i H', Inv (blkP X s3 H3 scope ce fp) [] (wipe σ (own.map (·.2))) H' s' ∧ tn i s'.heap ∧ (∀ b ∈ fp, H' b = none) ∧ W i m H' := fun {s' H'} I' nx => by
        obtain ⟨m', hm, w'⟩ := hNx H' nx
        have pin' : ∀ b ∈ fp, ∀ o, s7.heap.get? b = some o → s'.heap.get? b = some o ∧ H' b = none := fun b hb o e =>
          ⟨(I'.pin (b, o) (List.mem_append_right _ (List.mem_append_right _ (mem_pinsAt hb e)))).1, (I'.pin (b, o) (List.mem_append_right _ (List.mem_append_right _ (mem_pinsAt hb e)))).2.1⟩
        refine ⟨m', hm, i + 1, H', (I'.unpinned (pins := [])).weak (by rw [← hw8, wipe_length]) (fun j v e => ?_), T.keep _ _ _ st7 fun b hb o e => (pin' b hb o e).1, fun b hb => ?_, w'⟩
        · rw [← hw8] at e
          exact (wipe_some e).1
        · obtain ⟨o, e, _⟩ := T.obj _ _ st7 b hb
          exact (pin' b hb o e).2
      cases b with
      | false => exact fin I9 q9
      | true =>
        refine thnF (pe.run _ s9 σ8 H9 _ I9 q9) fun z s10 h10 => ?_
        obtain ⟨yv, H10, I10, r10, acc, hD10, hz10, nx⟩ := h10
        exact app_ok (X := blkP X s3 H3 scope ce fp) I10 hD10 hz10 r10 fun s11 I11 => fin I11 nx
  exact codeAny_compStart_list loop (T.self X.A 0 _ _ _ st4 loop)
end
section
variable {X : Cx} {elt tg iter : Expr} {ifs : List Expr} {scope : Scope} {own : List (Str × Nat)} {pos spos py : Pos} {wi : TI} {g : TG} {tt : TT} {te : TE} {i : Nat} {y : Str}
theorem peg_lc (hc : HC X) (hN : X.N.Nodup) (hi : PIG X tg iter wi) (ok : BlkOk X.N X.env.scope scope own)
    (hg : ∀ s H C cl fp, PG (blkP X s H scope (compEnvC scope cl C X.env) fp) tg g) (ht : ∀ s H C cl fp, PTs (blkP X s H scope (compEnvC scope cl C X.env) fp) ifs tt)
    (he : ∀ s H C cl fp, PE (blkP X s H scope (compEnvC scope cl C X.env) fp) elt te) (hs : ∀ x, foldedSetIterable iter X.env x = pure x := by intro _; rfl) :
    PE X (.ListComp elt [⟨tg, iter, ifs, 0⟩] scope pos) (tLc wi g tt te (own.map (·.2))) := by
  refine ⟨fun pins s σ H Q I h => ?_⟩
  rw [eval_ListComp]
  refine lcG_core hc hN I hi ok hg ht he hs h fun D C s' m H' I' q hn f => ⟨m, hn, fun h'' sb => ?_⟩
  exact ⟨.ref D, H', I'.turned (t' := s'.toks) (fun b o hb e => (sb.2 b hb).trans e) f.1 f.2.1 f.2.2.2.1 f.2.2.2.2.1 f.2.2.2.2.2, rfl, q⟩
theorem psg_setLc (hc : HC X) (hN : X.N.Nodup) (hy : X.N[i]? = some y) (hyl : X.env.scope.names.lookup y = some .local)
    (hsw : swapsWith (.ListComp elt [⟨tg, iter, ifs, 0⟩] scope pos) (some (.Name y py)) spos.line X.env = pure true) (hi : PIG X tg iter wi) (ok : BlkOk X.N X.env.scope scope own)
    (hg : ∀ s H C cl fp, PG (blkP X s H scope (compEnvC scope cl C X.env) fp) tg g) (ht : ∀ s H C cl fp, PTs (blkP X s H scope (compEnvC scope cl C X.env) fp) ifs tt)
    (he : ∀ s H C cl fp, PE (blkP X s H scope (compEnvC scope cl C X.env) fp) elt te) (hs : ∀ x, foldedSetIterable iter X.env x = pure x := by intro _; rfl) :
    PS X (.Assign [.Name y py] (.ListComp elt [⟨tg, iter, ifs, 0⟩] scope pos) spos) (tAsg (tLc wi g tt te (own.map (·.2))) (gName i)) := by
  refine ⟨fun pins s σ H D I h => ?_⟩
  rw [exec_Assign_Name_used _ _ _ _ hsw]
  refine wpAny_bind (wpAny_standAt (wpAny_bind (wpAny_bind (thn (lcG_core (Q := fun x H1 => gName i x σ H1 D.nx) (use := some (assign (.Name y py) X.env)) (Qf := fun _ s' => SP X pins D .next s') hc hN I hi ok hg ht he hs h fun L C s' m H' I' q hn f => ?_) fun _ s' hq => wpAny_pure (wpAny_pure hq)))))
  refine wpAny_assign_Name (store_ok2 (v := V.ref L) I' hN hy (.inl hyl) rfl (fun s2 I2 h2 => ?_) (.inr hyl))
  obtain ⟨a, sb, ha⟩ := h2
  have haC : C ≠ a := ha.elim (fun z => by rw [z]; exact f.2.1) fun z e => f.2.2.2.2.1 y a z e.symm
  exact ⟨m, hn.sameBut sb haC, fun h3 sb3 => ⟨_, H', I2.turned (t' := s2.toks) (fun b o hb e => (sb3.2 b hb).trans e) f.1 f.2.1 f.2.2.2.1 f.2.2.2.2.1 f.2.2.2.2.2, q⟩⟩
end
end K30
set_option Elab.async false
set_option linter.all false
set_option maxRecDepth 100000
set_option maxHeartbeats 2000000
/-! K30Fn: defs that keep their promise whether or not an exception is handled around them; their calls. -/
namespace K30
open PySem PySem.Spec PyProof.Rows L2 L2H HotX

/-- the promise of a def that lets no exception out, in both states -/
structure FnG (P : Program) (w : World) (K : PySem.W.Frag) (mg : Str → Option Value) (base : Heap) (k : Nat) (f : Addr) (fd : FuncData) (ps : List Str) (sp : Sp) : Prop where
  ok : FnOk P w K mg base CX0 k f fd ps sp
  hot : FnH P w K mg base CX0 k f fd ps sp
/-- the context of its body: calm, or with the handled exception borne -/
abbrev cxG (c : Bool) (pn : List (Addr × Obj)) (P : Program) (w : World) (K : PySem.W.Frag) (mg : Str → Option Value) (base : Heap) (N : List Str) (qual : Str) (scope : Scope) (f : Addr) (cd : Value) (A : Around) (outer : List Env) (s : Shared) (H : Hp) (E : XK) : Cx :=
  { cxOf CX0 P w K mg base N qual scope f cd A outer s H E with calm := c, pn := pn, xe := fun _ _ => False }
section
variable {P : Program} {w : World} {K : PySem.W.Frag} {mg : Str → Option Value} {base : Heap}
theorem FnG.mono {j k : Nat} {f : Addr} {fd : FuncData} {ps : List Str} {sp : Sp} (F : FnG P w K mg base j f fd ps sp) (h : j ≤ k) : FnG P w K mg base k f fd ps sp :=
  ⟨F.ok.mono h, F.hot.len, fun A outer s H args us vs Q E p r => F.hot.run A outer s H args us vs Q E p (r.mono h)⟩
theorem okG {x qual : Str} {st : Stmt} {f : Addr} {fd : FuncData} {N ps : List Str} {k : Nat} {sp : Sp} (F : Fun K x qual st f fd) (S : FnScope N ps (defScope st)) (len : ∀ vs H Q E, sp vs H Q E → vs.length = ps.length)
    (hbody : ∀ (c : Bool) (pn : List (Addr × Obj)) (cdv : Value) (A : Around) (outer : List Env) (s : Shared) (H : Hp) (vs : List V) (Q : VK) (E : XK), HC (cxG c pn P w K mg base N qual (defScope st) f cdv A outer s H E) →
      RoomH k (A.deeper (envOfC qual (defScope st) s.heap.objs.size f cdv)) → sp vs H Q E →
      ∃ t, PSs (cxG c pn P w K mg base N qual (defScope st) f cdv A outer s H E) (defBody st) t ∧ t { nx := fun _ H' => Q .non H', rt := Q } (L2.start N vs) H) : FnG P w K mg base (k + 1) f fd ps sp := by
  obtain ⟨oc, od, kV, doc, pm, an, cdv, ct, osl, rfl, lk, hcd⟩ := F.ex
  refine ⟨fn_of lk hcd S len fun A outer s H vs Q E hr hsp => ?_, fn_ofH lk hcd S len fun A outer s H vs Q E p hot hr hsp => ?_⟩
  · obtain ⟨t, h, q⟩ := hbody true [] cdv A outer s H vs Q E (.inl rfl) (roomH_of hr) hsp
    exact ⟨t, PSs.nox (X := cxOf CX0 P w K mg base N qual (defScope st) f cdv A outer s H E) h, q⟩
  · obtain ⟨t, h, q⟩ := hbody false [p] cdv A outer s H vs Q E (.inr ⟨p, hot, List.mem_cons_self⟩) hr hsp
    exact ⟨t, PSs.nox (X := cxH CX0 P w K mg base N qual (defScope st) f cdv A outer s H E p) h, q⟩
end
section
variable {X : Cx} {k : Nat} {f C : Addr} {fd : FuncData} {ps : List Str} {sp : Sp} {x m : Str} {q pos apos : Pos} {e o : Expr} {es : List Expr} {ta : TE} {t : TA}
/-- f(e, ..) -/
def tCallG (sp : Sp) (t : TA) : TE := fun σ H Q => t σ H fun vs H1 => sp vs H1 Q E0
theorem run_G {pins : List (Addr × Obj)} {σ : L2.St} {H : Hp} {s : Shared} {Q : VK} {us : List Value} {vs : List V} (hc : HC X) (F : FnG X.prog X.w X.K X.mg X.base k f fd ps sp) (hr : RoomH k X.A) (hb : Binds X.K fd ps []) (I : Inv X pins σ H s) (r : Vals vs us) (h : sp vs H Q E0) :
    wpAny (model X.prog X.w) X.A (call (.ref f) us) (EP X pins σ Q) X.xe s := by
  rcases hc with hc | hc
  · exact run_fnS (E := fun _ => E0) F.ok ⟨I.ok.hd hc, hr.dp, hr.un⟩ hb (fun _ _ _ _ _ _ z => z.elim) I r h
  · exact run_fnH (E := fun _ => E0) F.hot hr hc hb (fun _ _ _ _ _ _ z => z.elim) I r h
theorem peg_call (hc : HC X) (F : FnG X.prog X.w X.K X.mg X.base k f fd ps sp) (hr : RoomH k X.A) (hg : Gl X x) (hm : X.mg x = some (.ref f)) (hk : PySem.W.keepIn X.K (.ref f) = true) (hb : Binds X.K fd ps [])
    (ha : PA X (e :: es) t) (hdb : (x == ("__debug__" : Str)) = false := by decide) (he : starEach (e :: es) X.env = (false, eval e X.env) :: starEach es X.env := by rfl) (hpl : (backTo pos (starEach es X.env)).any (·.1) = false := by rfl) :
    PE X (.Call (.Name x q) (e :: es) [] pos) (tCallG sp t) := by
  refine ⟨fun pins s σ H Q I h => wpAny_Call_Name_kw (ld_glob I hg hm ?_ hdb)⟩
  refine PySem.W.callWith_K (h₀ := X.base) I.ok.mod.kin hk (thn (ha.run pos pins s σ H _ I h) fun us s1 h1 => ?_) he hpl
  obtain ⟨vs, H1, I1, r, z⟩ := h1
  exact ⟨I1.kIn, run_G hc F hr hb I1 r z⟩
/-- o.m(e, ..) -/
def tMethG (C : Addr) (m : Str) (sp : Sp) (ta : TE) (t : TA) : TE := fun σ H Q => ta σ H fun x H1 => ∃ a dx fs, x = .ref a ∧ H1 a = some (.ins C dx fs) ∧ fs.lookup m = none ∧ t σ H1 fun vs H2 => sp (x :: vs) H2 Q E0
theorem peg_meth {pl : Sem Bool} (hc : HC X) (he : PE X o ta) (c : Cls X.K C) (hm : Meth X.K C m f) (F : FnG X.prog X.w X.K X.mg X.base k f fd ps sp) (hr : RoomH k X.A) (hb : Binds X.K fd ps []) (ha : PA X (e :: es) t)
    (hst : starEach (e :: es) X.env = (false, eval e X.env) :: starEach es X.env := by rfl) (hpl : (backTo pos (starEach es X.env)).any (·.1) = false := by rfl)
    (ht : eval (.Call (.Attribute o m apos) (e :: es) [] pos) X.env = (do
      let ov ← eval o X.env
      standAt apos.atName
      let (f, first) ← holding [ov] (getMethod ov m pl)
      callWith pos f first (backTo pos (starEach (e :: es) X.env)) (backToKw pos (keywordEach [] X.env))) := by rfl) :
    PE X (.Call (.Attribute o m apos) (e :: es) [] pos) (tMethG C m sp ta t) := by
  refine ⟨fun pins s σ H Q I h => PySem.W.methodCall_KW (pl := pl) (thn (he.run pins s σ H _ I h) fun u s1 h1 => ?_) ht⟩
  obtain ⟨x, H1, I1, rx, a, dx, fs, rfl, ea, l, z⟩ := h1
  obtain rfl : u = Value.ref a := rx
  refine getmeth_ok I1 ea c hm l (PySem.W.callWith_K (first := [.ref a]) (h₀ := X.base) I.ok.mod.kin hm.kp (thn (ha.run pos pins s1 σ H1 _ I1 z) fun us s2 h2 => ?_) hst hpl)
  obtain ⟨vs, H2, I2, r, z2⟩ := h2
  exact ⟨I2.kIn, run_G (us := .ref a :: us) (vs := .ref a :: vs) hc F hr hb I2 (.cons rfl r) z2⟩
theorem peg_meth0 {pl : Sem Bool} (hc : HC X) (he : PE X o ta) (c : Cls X.K C) (hm : Meth X.K C m f) (F : FnG X.prog X.w X.K X.mg X.base k f fd ps sp) (hr : RoomH k X.A) (hb : Binds X.K fd ps [])
    (ht : eval (.Call (.Attribute o m apos) [] [] pos) X.env = (do
      let ov ← eval o X.env
      standAt apos.atName
      let (f, first) ← holding [ov] (getMethod ov m pl)
      callWith pos f first (backTo pos (starEach [] X.env)) (backToKw pos (keywordEach [] X.env))) := by rfl) :
    PE X (.Call (.Attribute o m apos) [] [] pos) (tMethG C m sp ta tNil) := by
  refine ⟨fun pins s σ H Q I h => PySem.W.methodCall_KW (pl := pl) (thn (he.run pins s σ H _ I h) fun u s1 h1 => ?_) ht⟩
  obtain ⟨x, H1, I1, rx, a, dx, fs, rfl, ea, l, z⟩ := h1
  obtain rfl : u = Value.ref a := rx
  exact getmeth_ok I1 ea c hm l (PySem.W.callWith_K0 (first := [.ref a]) I1.kIn hm.kp (run_G (us := [.ref a]) (vs := [.ref a]) hc F hr hb I1 (.cons rfl .nil) z))
end
theorem huH {A : Around} {k : Nat} (hr : RoomH k A) : A.units + 1 < cLine := by
  have := hr.un
  omega
end K30
/-! ### the rules with the written part named (within a comprehension's block) -/
namespace K30
open PySem PySem.Spec PyProof.Rows L2 L2H HotX
section
variable {X : Cx} {e : Expr} {ta : TE} {pos : Pos}
theorem ixT (K : PySem.W.Frag) (h : X.K = K := by rfl) : IxR X (rIxT K) := h ▸ ix_tup
theorem ixL (K : PySem.W.Frag) (h : X.K = K := by rfl) : IxR X (rIxL K) := h ▸ ix_list
theorem inSeq (K : PySem.W.Frag) (h : X.K = K := by rfl) : OpR X (compareOp .In) (rIn K false) := h ▸ op_in_seq
theorem notInSeq (K : PySem.W.Frag) (h : X.K = K := by rfl) : OpR X (compareOp .NotIn) (rIn K true) := h ▸ op_notIn_seq
theorem lenSeq (K : PySem.W.Frag) (h : X.K = K := by rfl) : CallR X (.builtin "len") (fun xs H Q => ∃ p ys, xs = [.ref p] ∧ (SqL K H p ys ∨ SqT K H p ys) ∧ Q (.int ys.length) H) := h ▸ call_len_seq
theorem tupOf (K : PySem.W.Frag) (h : X.K = K := by rfl) : CallR X (.type "tuple") (fun xs H Q => ∃ p ys, xs = [.ref p] ∧ ((SqL K H p ys ∧ ∀ l, H l = none → Q (.ref l) (upd H l (.tup ys))) ∨ (SqT K H p ys ∧ Q (.ref p) H))) := h ▸ call_tuple_of
theorem fldK (K : PySem.W.Frag) {f : Str} (he : PE X e ta) (hb : attributeBase e f X.env (eval e X.env) = eval e X.env) (h : X.K = K := by rfl) : PE X (.Attribute e f pos) (tFld K ta f) := h ▸ pe_fld he hb
theorem truthK (K : PySem.W.Frag) (he : PE X e ta) (hw : ∀ whole, isTrue e X.env whole = (do let v ← whole; standAt e.pos; holding [v] (truthy v))) (h : X.K = K := by rfl) : PT X e (fun σ H Q => ta σ H fun x H' => ∃ k, TruV K x H' k ∧ Q k H') := h ▸ pt_truth he hw
theorem pgT (K : PySem.W.Frag) {es : List Expr} {k : Nat} {t : TGs} (n : Nat) (hc : HC X) (hs : PGs X es t) (hn : (assignEach es X.env).length = n := by rfl) (hst : (assignEach es X.env).findIdx? (·.1) = none := by rfl) (h : X.K = K := by rfl) :
    PG X (.Tuple es k pos) (gTup K n t) := h ▸ K30.pg_tup hc hs hn hst
theorem pigL (K : PySem.W.Frag) {tg : Expr} (he : PE X e ta) (h : X.K = K := by rfl) : PIG X tg e (iList K ta) := h ▸ pig_list he
theorem pigT (K : PySem.W.Frag) {tg : Expr} (he : PE X e ta) (h : X.K = K := by rfl) : PIG X tg e (iTup K ta) := h ▸ pig_tup he
end
end K30
set_option Elab.async false
set_option linter.all false
set_option maxRecDepth 100000
set_option maxHeartbeats 2000000
/-! K30Built: max, min, all where nothing or one known exception is handled. -/
namespace K30
open PySem PySem.Spec PyProof.Rows L2 L2H HotX
section
variable {prog : Program} {w : World} {A : Around} {E : Value → Shared → Prop} {s : Shared}
/-- a list's iterator, with all that its turns lean on -/
theorem iterQ_list {l : Addr} {vs : Array Value} {Q : Value → Shared → Prop} (q : Quiet A s.heap) (hl : s.heap.IsList l vs)
    (h : ∀ (s2 : Shared) (fp : List Addr) (St : Nat → Heap → Prop), s2 = { s with heap := s.heap.push { cls := .type "list_iterator", data := .fields #[.ref l, .int 0 0] } } →
      Walks prog w A s.heap.objs.size fp [s.heap.objs.size] vs.size (fun i v => vs[i]? = some v) St → St 0 s2.heap → (∀ b ∈ fp, b < s2.heap.objs.size) → Q (.ref s.heap.objs.size) s2) :
    wpAny (model prog w) A (pyIter (.ref l)) Q E s := by
  have hlt : l < s.heap.objs.size := by
    obtain ⟨_, e, _⟩ := hl
    exact Heap.lt_size e
  have hsz : (s.heap.push { cls := .type "list_iterator", data := .fields #[.ref l, .int 0 0] }).objs.size = s.heap.objs.size + 1 := Heap.size_push ..
  refine wpAny_pyIter_list hl ?_
  rcases q with q | ⟨x, hx, o, us, e1, e2, e3⟩
  · refine h _ _ _ rfl (Walks.list (A := A) q _ l (Nat.ne_of_lt hlt) vs) ⟨⟨_, Heap.get?_push_size _ rfl, rfl, rfl⟩, hl.push _⟩ fun b hb => ?_
    show b < (s.heap.push _).objs.size
    rw [hsz]
    simp only [List.mem_cons, List.not_mem_nil, or_false] at hb
    rcases hb with rfl | rfl
    · exact Nat.lt_succ_self _
    · exact Nat.lt_succ_of_lt hlt
  · have hxl : x < s.heap.objs.size := Heap.lt_size e1
    refine h _ [s.heap.objs.size, l, x] (fun i g => g.IsListIter s.heap.objs.size l i ∧ g.IsList l vs ∧ g.get? x = some o) rfl ?_ ⟨⟨_, Heap.get?_push_size _ rfl, rfl, rfl⟩, hl.push _, Heap.get?_push_of_some _ e1⟩ fun b hb => ?_
    · refine ⟨fun b hb => ?_, fun i g g' st k => ?_, fun i t Q' E' hi st hQ => ?_, fun t Q' E' st hQ => ?_, fun i t Q' E' st hQ => wpAny_pyIter_listiter st.1 hQ⟩
      · obtain rfl := List.mem_singleton.mp hb
        exact List.mem_cons_self
      · exact ⟨st.1.at fun ob z => k _ (by simp) ob z, st.2.1.at fun ob z => k _ (by simp) ob z, k _ (by simp) _ st.2.2⟩
      · refine wpAny_pyNext_list_item st.1 st.2.1 (x := vs[i]) (by simp [hi]) fun h' hit' hs' => ?_
        exact hQ _ h' t.toks (by simp [hi]) ⟨hit', st.2.1.extBut hs'.extBut (Nat.ne_of_lt hlt), hs'.extBut _ _ (Nat.ne_of_lt hxl) st.2.2⟩ fun b ob hb z => hs'.extBut b ob (fun y => hb (by simp [y])) z
      · exact next_list_end (.inr ⟨x, hx, o, us, st.2.2, e2, e3⟩) st.1 st.2.1 (by simp) fun h' he' => hQ h' t.toks fun b ob hb z => he' b ob (fun y => hb (by simp [y])) z
    · show b < (s.heap.push _).objs.size
      rw [hsz]
      simp only [List.mem_cons, List.not_mem_nil, or_false] at hb
      rcases hb with rfl | rfl | rfl
      · exact Nat.lt_succ_self _
      · exact Nat.lt_succ_of_lt hlt
      · exact Nat.lt_succ_of_lt hxl
theorem iterQ_tuple {l : Addr} {vs : Array Value} {Q : Value → Shared → Prop} (q : Quiet A s.heap) (hl : s.heap.IsTuple l vs) (hl2 : IsTup s.heap l vs)
    (h : ∀ (s2 : Shared) (fp : List Addr) (St : Nat → Heap → Prop), s2 = { s with heap := s.heap.push { cls := .type "tuple_iterator", data := .fields #[.ref l, .int 0 0] } } →
      Walks prog w A s.heap.objs.size fp [s.heap.objs.size] vs.size (fun i v => vs[i]? = some v) St → St 0 s2.heap → (∀ b ∈ fp, b < s2.heap.objs.size) → Q (.ref s.heap.objs.size) s2) :
    wpAny (model prog w) A (pyIter (.ref l)) Q E s := by
  have hlt : l < s.heap.objs.size := by
    obtain ⟨_, e, _⟩ := hl
    exact Heap.lt_size e
  have hsz : (s.heap.push { cls := .type "tuple_iterator", data := .fields #[.ref l, .int 0 0] }).objs.size = s.heap.objs.size + 1 := Heap.size_push ..
  refine wpAny_pyIter_tuple hl ?_
  rcases q with q | ⟨x, hx, o, us, e1, e2, e3⟩
  · refine h _ _ _ rfl (Walks.tuple (A := A) q _ l (Nat.ne_of_lt hlt) vs) ⟨⟨_, Heap.get?_push_size _ rfl, rfl, rfl⟩, hl.push _⟩ fun b hb => ?_
    show b < (s.heap.push _).objs.size
    rw [hsz]
    simp only [List.mem_cons, List.not_mem_nil, or_false] at hb
    rcases hb with rfl | rfl
    · exact Nat.lt_succ_self _
    · exact Nat.lt_succ_of_lt hlt
  · have hxl : x < s.heap.objs.size := Heap.lt_size e1
    refine h _ [s.heap.objs.size, l, x] (fun i g => g.IsTupleIter s.heap.objs.size l i ∧ IsTup g l vs ∧ g.get? x = some o) rfl ?_ ⟨⟨_, Heap.get?_push_size _ rfl, rfl, rfl⟩, hl2.push _, Heap.get?_push_of_some _ e1⟩ fun b hb => ?_
    · refine ⟨fun b hb => ?_, fun i g g' st k => ?_, fun i t Q' E' hi st hQ => ?_, fun t Q' E' st hQ => ?_, fun i t Q' E' st hQ => wpAny_pyIter_tupleiter st.1 hQ⟩
      · obtain rfl := List.mem_singleton.mp hb
        exact List.mem_cons_self
      · refine ⟨st.1.at fun ob z => k _ (by simp) ob z, ?_, k _ (by simp) _ st.2.2⟩
        obtain ⟨ob, z, r⟩ := st.2.1
        exact ⟨ob, k _ (by simp) ob z, r⟩
      · refine wpAny_pyNext_tuple_item st.1 (show t.heap.IsTuple l vs from st.2.1) (x := vs[i]) (by simp [hi]) fun h' hit' hs' => ?_
        exact hQ _ h' t.toks (by simp [hi]) ⟨hit', st.2.1.extBut hs'.extBut (Nat.ne_of_lt hlt), hs'.extBut _ _ (Nat.ne_of_lt hxl) st.2.2⟩ fun b ob hb z => hs'.extBut b ob (fun y => hb (by simp [y])) z
      · exact next_tup_end (.inr ⟨x, hx, o, us, st.2.2, e2, e3⟩) st.1 st.2.1 (by simp) fun h' he' => hQ h' t.toks fun b ob hb z => he' b ob (fun y => hb (by simp [y])) z
    · show b < (s.heap.push _).objs.size
      rw [hsz]
      simp only [List.mem_cons, List.not_mem_nil, or_false] at hb
      rcases hb with rfl | rfl | rfl
      · exact Nat.lt_succ_self _
      · exact Nat.lt_succ_of_lt hlt
      · exact Nat.lt_succ_of_lt hxl
end

/-! ### ints by their places -/
theorem ints_place {ns : List Int} {its : List Value} (r : Vals (ns.map V.int) its) : ∀ (i : Nat) (v : Value), its.toArray[i]? = some v → ∃ t, v = .int (ns.getD i 0) t := fun i v h => by
  have h' : its[i]? = some v := by simpa using h
  have hi : i < its.length := (List.getElem?_eq_some_iff.mp h').1
  have hl := r.length
  rw [List.length_map] at hl
  have hn : ns[i]? = some (ns[i]'(by omega)) := List.getElem?_eq_getElem (by omega)
  obtain ⟨u, hu, ru⟩ := r.get (i := i) (x := .int (ns[i]'(by omega))) (by rw [List.getElem?_map, hn]; rfl)
  rw [h'] at hu
  cases hu
  obtain ⟨t, e⟩ := ru
  refine ⟨t, ?_⟩
  rw [e, List.getD_eq_getElem?_getD, hn]
  rfl
section
variable {X : Cx}
theorem cg_max2 (hc : HC X) : CallR X (.builtin "max") (fun xs H Q => ∃ i j, xs = [.int i, .int j] ∧ Q (.int (if j > i then j else i)) H) := by
  intro pins s σ H xs us Q I r h
  obtain ⟨a, b, rfl, q⟩ := h
  obtain ⟨u, w', rfl, ⟨t, rfl⟩, ⟨t', rfl⟩⟩ := vals2 r
  have rv : Vals ([a, b].map V.int) [Value.int a t, Value.int b t'] := .cons ⟨t, rfl⟩ (.cons ⟨t', rfl⟩ .nil)
  have hsz : (s.heap.push { cls := .type "tuple", data := .seq #[.int a t, .int b t'] }).objs.size = s.heap.objs.size + 1 := Heap.size_push ..
  refine call_max_two (iterQ_tuple (A := X.A.in1) (l := s.heap.objs.size) (vs := [Value.int a t, Value.int b t'].toArray) ((hc.quiet I).keeps fun b o e => Heap.get?_push_of_some _ e) ⟨_, Heap.get?_push_size _ rfl, rfl, 0, rfl⟩ (IsTup.new s.heap _) fun s2 fp St e W st hb => ?_)
  subst e
  refine ⟨_, fp, _, _, _, _, _, rfl, W, st, hb, Nat.succ_pos 1, CmpOf.ints_gt (fun i => [a, b].getD i 0) (ints_place rv), fun v h' tk hP hk => ?_⟩
  have old : ∀ c o, s.heap.get? c = some o → h'.get? c = some o := fun c o e => hk c o (fun hm => by
    have z := Heap.lt_size e
    rw [List.mem_singleton.mp hm] at z
    exact absurd (Nat.lt_of_lt_of_le z (Nat.le_trans (Nat.le_succ _) (Nat.le_of_eq hsz.symm))) (Nat.lt_irrefl _)) (Heap.get?_push_of_some _ (Heap.get?_push_of_some _ e))
  refine ⟨.int _, H, I.kept old, ?_, q⟩
  by_cases hba : b > a
  · have e1 : argBest (fun i j => decide (([a, b].getD i 0 : Int) > [a, b].getD j 0)) ([Value.int a t, Value.int b t'].toArray.size - 1) = 1 := by simp [argBest, hba]
    rw [e1] at hP
    rw [if_pos hba]
    exact ⟨t', by simpa using hP.symm⟩
  · have e1 : argBest (fun i j => decide (([a, b].getD i 0 : Int) > [a, b].getD j 0)) ([Value.int a t, Value.int b t'].toArray.size - 1) = 0 := by simp [argBest, hba]
    rw [e1] at hP
    rw [if_neg hba]
    exact ⟨t, by simpa using hP.symm⟩
theorem cg_min2 (hc : HC X) : CallR X (.builtin "min") (fun xs H Q => ∃ i j, xs = [.int i, .int j] ∧ Q (.int (if j < i then j else i)) H) := by
  intro pins s σ H xs us Q I r h
  obtain ⟨a, b, rfl, q⟩ := h
  obtain ⟨u, w', rfl, ⟨t, rfl⟩, ⟨t', rfl⟩⟩ := vals2 r
  have rv : Vals ([a, b].map V.int) [Value.int a t, Value.int b t'] := .cons ⟨t, rfl⟩ (.cons ⟨t', rfl⟩ .nil)
  have hsz : (s.heap.push { cls := .type "tuple", data := .seq #[.int a t, .int b t'] }).objs.size = s.heap.objs.size + 1 := Heap.size_push ..
  refine call_min_two (iterQ_tuple (A := X.A.in1) (l := s.heap.objs.size) (vs := [Value.int a t, Value.int b t'].toArray) ((hc.quiet I).keeps fun b o e => Heap.get?_push_of_some _ e) ⟨_, Heap.get?_push_size _ rfl, rfl, 0, rfl⟩ (IsTup.new s.heap _) fun s2 fp St e W st hb => ?_)
  subst e
  refine ⟨_, fp, _, _, _, _, _, rfl, W, st, hb, Nat.succ_pos 1, CmpOf.ints_lt (fun i => [a, b].getD i 0) (ints_place rv), fun v h' tk hP hk => ?_⟩
  have old : ∀ c o, s.heap.get? c = some o → h'.get? c = some o := fun c o e => hk c o (fun hm => by
    have z := Heap.lt_size e
    rw [List.mem_singleton.mp hm] at z
    exact absurd (Nat.lt_of_lt_of_le z (Nat.le_trans (Nat.le_succ _) (Nat.le_of_eq hsz.symm))) (Nat.lt_irrefl _)) (Heap.get?_push_of_some _ (Heap.get?_push_of_some _ e))
  refine ⟨.int _, H, I.kept old, ?_, q⟩
  by_cases hba : b < a
  · have e1 : argBest (fun i j => decide (([a, b].getD i 0 : Int) < [a, b].getD j 0)) ([Value.int a t, Value.int b t'].toArray.size - 1) = 1 := by simp [argBest, hba]
    rw [e1] at hP
    rw [if_pos hba]
    exact ⟨t', by simpa using hP.symm⟩
  · have e1 : argBest (fun i j => decide (([a, b].getD i 0 : Int) < [a, b].getD j 0)) ([Value.int a t, Value.int b t'].toArray.size - 1) = 0 := by simp [argBest, hba]
    rw [e1] at hP
    rw [if_neg hba]
    exact ⟨t, by simpa using hP.symm⟩
/-- max(xs, default=d), min(xs, default=d): xs a list of ints -/
def rMaxD (K : PySem.W.Frag) : List V → List V → Hp → VK → Prop := fun vs zs H Q => ∃ (a : Addr) (ns : List Int) (d : V), vs = [V.ref a] ∧ zs = [d] ∧ SqL K H a (ns.map V.int) ∧ (ns = [] → Q d H) ∧ ∀ m, m ∈ ns → (∀ y, y ∈ ns → y ≤ m) → Q (.int m) H
def rMinD (K : PySem.W.Frag) : List V → List V → Hp → VK → Prop := fun vs zs H Q => ∃ (a : Addr) (ns : List Int) (d : V), vs = [V.ref a] ∧ zs = [d] ∧ SqL K H a (ns.map V.int) ∧ (ns = [] → Q d H) ∧ ∀ m, m ∈ ns → (∀ y, y ∈ ns → m ≤ y) → Q (.int m) H
theorem getD_in {ns : List Int} {i : Nat} (h : i < ns.length) : ns.getD i 0 ∈ ns := by
  rw [List.getD_eq_getElem?_getD, List.getElem?_eq_getElem h]
  exact List.getElem_mem h
theorem in_getD {ns : List Int} {y : Int} (h : y ∈ ns) : ∃ i, i < ns.length ∧ ns.getD i 0 = y := by
  obtain ⟨i, hi, e⟩ := List.mem_iff_getElem.mp h
  refine ⟨i, hi, ?_⟩
  rw [List.getD_eq_getElem?_getD, List.getElem?_eq_getElem hi]
  exact e
theorem old_in {l : Addr} {s s' : Shared} (m : Moved [s.heap.objs.size] (fun a b => b = a) { s with heap := s.heap.push { cls := .type "list_iterator", data := .fields #[.ref l, .int 0 0] } } s') :
    ∃ h' tk, s' = { s with heap := h', toks := tk } ∧ ∀ b o, s.heap.get? b = some o → h'.get? b = some o := PySem.W.moved_old rfl rfl m
theorem cg_maxD (hc : HC X) : CallRK X (.builtin "max") [Str.ofString "default"] (rMaxD X.K) := by
  intro pins s σ H vs zs us ws Q I r rz h
  obtain ⟨a, ns, d, rfl, rfl, hs, q0, q1⟩ := h
  obtain rfl := Vals.ref1 r
  obtain ⟨w1, rfl, rd⟩ := vals1 rz
  obtain ⟨its, rv, hl, _⟩ := I.list hs
  have hlen := rv.length
  rw [List.length_map] at hlen
  refine call_max_walkD (iterQ_list (A := X.A.in1) (hc.quiet I) hl.isList fun s2 fp St e W st hb => ?_)
  subst e
  refine ⟨_, fp, _, _, _, _, _, s.heap, _, rfl, W.toS, st, hb, fun b o e hm => absurd (Heap.lt_size e) (by rw [List.mem_singleton.mp hm]; exact Nat.lt_irrefl _), fun b o e => Heap.get?_push_of_some _ e, fun hz s' m => ?_, fun hp => ⟨fun i j vi vj t Q' E' _ hi hj hq => CmpOf.ints_gt (fun i => ns.getD i 0) (ints_place rv) i j vi vj t Q' E' hi hj hq, fun v s' hP m => ?_⟩⟩
  · obtain ⟨h', tk, rfl, k⟩ := old_in m
    exact ⟨d, H, I.kept k, rd, q0 (List.eq_nil_of_length_eq_zero (by rw [hlen]; simpa using hz))⟩
  · obtain ⟨h', tk, rfl, k⟩ := old_in m
    obtain ⟨t, rfl⟩ := ints_place rv _ _ hP
    have hpos : 0 < its.length := by simpa using hp
    obtain ⟨b1, b2⟩ := argBest_gt (fun i => ns.getD i 0) (its.toArray.size - 1)
    rw [List.size_toArray] at b1 b2
    refine ⟨.int _, H, I.kept k, ⟨t, rfl⟩, q1 _ (getD_in ?_) fun y hy => ?_⟩
    · rw [List.size_toArray]
      omega
    · obtain ⟨j, hj, rfl⟩ := in_getD hy
      rw [List.size_toArray]
      exact b2 j (by omega)
theorem cg_minD (hc : HC X) : CallRK X (.builtin "min") [Str.ofString "default"] (rMinD X.K) := by
  intro pins s σ H vs zs us ws Q I r rz h
  obtain ⟨a, ns, d, rfl, rfl, hs, q0, q1⟩ := h
  obtain rfl := Vals.ref1 r
  obtain ⟨w1, rfl, rd⟩ := vals1 rz
  obtain ⟨its, rv, hl, _⟩ := I.list hs
  have hlen := rv.length
  rw [List.length_map] at hlen
  refine call_min_walkD (iterQ_list (A := X.A.in1) (hc.quiet I) hl.isList fun s2 fp St e W st hb => ?_)
  subst e
  refine ⟨_, fp, _, _, _, _, _, s.heap, _, rfl, W.toS, st, hb, fun b o e hm => absurd (Heap.lt_size e) (by rw [List.mem_singleton.mp hm]; exact Nat.lt_irrefl _), fun b o e => Heap.get?_push_of_some _ e, fun hz s' m => ?_, fun hp => ⟨fun i j vi vj t Q' E' _ hi hj hq => CmpOf.ints_lt (fun i => ns.getD i 0) (ints_place rv) i j vi vj t Q' E' hi hj hq, fun v s' hP m => ?_⟩⟩
  · obtain ⟨h', tk, rfl, k⟩ := old_in m
    exact ⟨d, H, I.kept k, rd, q0 (List.eq_nil_of_length_eq_zero (by rw [hlen]; simpa using hz))⟩
  · obtain ⟨h', tk, rfl, k⟩ := old_in m
    obtain ⟨t, rfl⟩ := ints_place rv _ _ hP
    have hpos : 0 < its.length := by simpa using hp
    obtain ⟨b1, b2⟩ := argBest_lt (fun i => ns.getD i 0) (its.toArray.size - 1)
    rw [List.size_toArray] at b1 b2
    refine ⟨.int _, H, I.kept k, ⟨t, rfl⟩, q1 _ (getD_in ?_) fun y hy => ?_⟩
    · rw [List.size_toArray]
      omega
    · obtain ⟨j, hj, rfl⟩ := in_getD hy
      rw [List.size_toArray]
      exact b2 j (by omega)
/-- max(xs), xs a list of ints, one at least -/
theorem cg_max (hc : HC X) : CallR X (.builtin "max") (rMax X.K) := by
  intro pins s σ H vs us Q I r h
  obtain ⟨a, ns, rfl, hs, hne, q⟩ := h
  obtain rfl := Vals.ref1 r
  obtain ⟨its, rv, hl, _⟩ := I.list hs
  have hlen := rv.length
  rw [List.length_map] at hlen
  refine call_max_walk (iterQ_list (A := X.A.in1) (hc.quiet I) hl.isList fun s2 fp St e W st hb => ?_)
  subst e
  refine ⟨_, fp, _, _, _, _, _, rfl, W, st, hb, by rw [List.size_toArray]; omega, CmpOf.ints_gt (fun i => ns.getD i 0) (ints_place rv), fun v h' tk hP hk => ?_⟩
  obtain ⟨t, rfl⟩ := ints_place rv _ _ hP
  obtain ⟨b1, b2⟩ := argBest_gt (fun i => ns.getD i 0) (its.toArray.size - 1)
  rw [List.size_toArray] at b1 b2
  refine ⟨.int _, H, I.kept fun b o e => hk b o (fun hm => absurd (Heap.lt_size e) (by rw [List.mem_singleton.mp hm]; exact Nat.lt_irrefl _)) (Heap.get?_push_of_some _ e), ⟨t, rfl⟩, q _ (getD_in ?_) fun y hy => ?_⟩
  · rw [List.size_toArray]
    omega
  · obtain ⟨j, hj, rfl⟩ := in_getD hy
    rw [List.size_toArray]
    exact b2 j (by omega)
/-- all(xs), xs a list of bools -/
theorem cg_all (hc : HC X) : CallR X (.builtin "all") (rAll X.K) := by
  intro pins s σ H vs us Q I r h
  obtain ⟨a, bs, rfl, hs, q⟩ := h
  obtain rfl := Vals.ref1 r
  obtain ⟨its, rv, hl, _⟩ := I.list hs
  have hb := rv.bls
  refine call_all_walk (iterQ_list (A := X.A.in1) (hc.quiet I) hl.isList fun s2 fp St e W st hfp => ?_)
  subst e
  refine ⟨_, fp, _, _, _, _, _, rfl, W, st, truth_bools hb, fun h' tk hk => ?_⟩
  refine ⟨.bl _, H, I.kept fun b o e => hk b o (fun hm => absurd (Heap.lt_size e) (by rw [List.mem_singleton.mp hm]; exact Nat.lt_irrefl _)) (Heap.get?_push_of_some _ e), ?_, q⟩
  show Value.bool _ = Value.bool _
  rw [← L2.all_range, hb, List.size_toArray, List.length_map]
end
end K30
set_option Elab.async false
set_option linter.all false
set_option maxRecDepth 100000
set_option maxHeartbeats 2000000
/-! K30Exc: raise C() with no argument; d.pop(k) with a tuple as the key. -/
namespace K30
open PySem PySem.Spec PyProof.Rows L2 L2H HotX
section
variable {X : Cx} {C : Addr} {bmB : List Value} {B newId initId : String}
theorem pmk_bare {x : Str} {p pos : Pos} (F : ExcBaseFacts B newId initId bmB) (q : PySem.W.excIn X.K C bmB newId = true) (gC : X.mg x = some (.ref C)) (kC : PySem.W.keepIn X.K (.ref C) = true) (r : Raises X (.ref C)) (hg : Gl X x)
    (hdb : (x == ("__debug__" : Str)) = false := by decide) : L2N.PMk X (.Call (.Name x p) [] [] pos) (fun _ H Q => Q (.ref C) none H) := by
  intro pins s σ H Q I h
  refine wpAny_Call_Name_kw (ld_glob I hg gC (PySem.W.callWith_K0 I.kIn kC ?_) hdb)
  obtain ⟨bm, N, nm, qn, bs, hdct, sn, sub, ab, col, dd, k0, k1, k2, k3, k5, mN, hC, hN, hni, T⟩ := exc_obj I.kIn q
  exact wpAny_call_exc_subT F T hC hN hni (fun h' e hm => L2N.mk_of I hm r h (I.hok.gone hm.new)) (by show 0 ≤ sizeLine; exact Nat.zero_le _)
end
end K30
set_option Elab.async false
set_option linter.all false
set_option maxRecDepth 100000
set_option maxHeartbeats 2000000
/-! K30Txt (printed by gen_txt.py): the defs of the text, their scopes; what the top has written. -/
namespace K30
open PySem L2
def top (i : Nat) : Stmt := PySem.Challenge.pw_sayonce_k30_whole_word_by_word.main.body.getD i (.Pass ⟨0, 0, 0, 0⟩)
abbrev s_isWord : Stmt := top 9
abbrev s_simpleFault : Stmt := top 10
abbrev s_multFault : Stmt := top 11
abbrev s_checkRows : Stmt := top 12
abbrev s_checkWords : Stmt := top 13
abbrev s_checkEndless : Stmt := top 14
abbrev s_sysInit : Stmt := inClass (top 15) 0
abbrev s_sysWords : Stmt := inClass (top 15) 1
abbrev s_simpleValue : Stmt := inClass (top 15) 2
abbrev s_multiplier : Stmt := inClass (top 15) 3
abbrev s_endless : Stmt := inClass (top 15) 4
abbrev s_bmax : Stmt := inClass (top 15) 5
abbrev s_isSpoken : Stmt := top 16
abbrev s_rdInit : Stmt := inClass (top 24) 0
abbrev s_rdWords : Stmt := inClass (top 24) 1
abbrev s_counts : Stmt := inClass (top 24) 2
abbrev s_rests : Stmt := inClass (top 24) 3
abbrev s_derived : Stmt := inClass (top 24) 4
abbrev s_add : Stmt := inClass (top 24) 5
abbrev s_drop : Stmt := inClass (top 24) 6
abbrev s_restAM : Stmt := inClass (top 24) 7
abbrev s_begun : Stmt := inClass (top 24) 8
abbrev s_first : Stmt := inClass (top 24) 9
abbrev s_atMost : Stmt := inClass (top 24) 10
abbrev s_greatest : Stmt := inClass (top 24) 11
abbrev s_least : Stmt := inClass (top 24) 12
abbrev s_meanings : Stmt := inClass (top 24) 13
abbrev s_bounds : Stmt := inClass (top 24) 14
abbrev s_push : Stmt := inClass (top 24) 15
abbrev s_pop : Stmt := inClass (top 24) 16
abbrev s_allows : Stmt := inClass (top 24) 17
abbrev s_lPool : Stmt := top 26
abbrev s_lTake : Stmt := top 27
abbrev s_lWord : Stmt := top 28
abbrev s_lRows : Stmt := top 29
abbrev s_lIsInt : Stmt := top 30
abbrev s_lSame : Stmt := top 31
abbrev s_lTried : Stmt := top 32
abbrev s_lStage : Stmt := top 33
abbrev s_lStarts : Stmt := top 34
abbrev s_lBegins : Stmt := top 35
abbrev s_law : Stmt := top 36
theorem sc_isWord : FnScope ["text", "letter"] ["text"] (defScope s_isWord) := ⟨rfl, rfl, rfl, by decide +kernel, rfl, by decide +kernel, by decide +kernel⟩
theorem sc_simpleFault : FnScope ["row"] ["row"] (defScope s_simpleFault) := ⟨rfl, rfl, rfl, by decide +kernel, rfl, by decide +kernel, by decide +kernel⟩
theorem sc_multFault : FnScope ["row", "word", "value", "count", "_", "rest"] ["row"] (defScope s_multFault) := ⟨rfl, rfl, rfl, by decide +kernel, rfl, by decide +kernel, by decide +kernel⟩
theorem sc_checkRows : FnScope ["part", "rows", "most", "number", "row", "reason"] ["part", "rows", "most"] (defScope s_checkRows) := ⟨rfl, rfl, rfl, by decide +kernel, rfl, by decide +kernel, by decide +kernel⟩
theorem sc_checkWords : FnScope ["simple", "multipliers", "seen", "part", "rows", "number", "row"] ["simple", "multipliers"] (defScope s_checkWords) := ⟨rfl, rfl, rfl, by decide +kernel, rfl, by decide +kernel, by decide +kernel⟩
theorem sc_checkEndless : FnScope ["multipliers", "found", "number", "row"] ["multipliers"] (defScope s_checkEndless) := ⟨rfl, rfl, rfl, by decide +kernel, rfl, by decide +kernel, by decide +kernel⟩
theorem sc_sysInit : FnScope ["self", "simple", "multipliers", "row"] ["self", "simple", "multipliers"] (defScope s_sysInit) := ⟨rfl, rfl, rfl, by decide +kernel, rfl, by decide +kernel, by decide +kernel⟩
theorem sc_sysWords : FnScope ["self", "row"] ["self"] (defScope s_sysWords) := ⟨rfl, rfl, rfl, by decide +kernel, rfl, by decide +kernel, by decide +kernel⟩
theorem sc_simpleValue : FnScope ["self", "word"] ["self", "word"] (defScope s_simpleValue) := ⟨rfl, rfl, rfl, by decide +kernel, rfl, by decide +kernel, by decide +kernel⟩
theorem sc_multiplier : FnScope ["self", "word"] ["self", "word"] (defScope s_multiplier) := ⟨rfl, rfl, rfl, by decide +kernel, rfl, by decide +kernel, by decide +kernel⟩
theorem sc_endless : FnScope ["self", "row"] ["self"] (defScope s_endless) := ⟨rfl, rfl, rfl, by decide +kernel, rfl, by decide +kernel, by decide +kernel⟩
theorem sc_bmax : FnScope ["self", "found", "row"] ["self"] (defScope s_bmax) := ⟨rfl, rfl, rfl, by decide +kernel, rfl, by decide +kernel, by decide +kernel⟩
theorem sc_isSpoken : FnScope ["row", "count", "_", "most", "is_unsaid"] ["row", "count"] (defScope s_isSpoken) := ⟨rfl, rfl, rfl, by decide +kernel, rfl, by decide +kernel, by decide +kernel⟩
theorem sc_rdInit : FnScope ["self", "system"] ["self", "system"] (defScope s_rdInit) := ⟨rfl, rfl, rfl, by decide +kernel, rfl, by decide +kernel, by decide +kernel⟩
theorem sc_rdWords : FnScope ["self"] ["self"] (defScope s_rdWords) := ⟨rfl, rfl, rfl, by decide +kernel, rfl, by decide +kernel, by decide +kernel⟩
theorem sc_counts : FnScope ["self", "row", "start", "at", "value"] ["self", "row", "start", "at"] (defScope s_counts) := ⟨rfl, rfl, rfl, by decide +kernel, rfl, by decide +kernel, by decide +kernel⟩
theorem sc_rests : FnScope ["self", "row", "start", "stop", "value"] ["self", "row", "start", "stop"] (defScope s_rests) := ⟨rfl, rfl, rfl, by decide +kernel, rfl, by decide +kernel, by decide +kernel⟩
theorem sc_derived : FnScope ["self", "start", "stop", "found", "value", "at", "row", "count", "rest"] ["self", "start", "stop"] (defScope s_derived) := ⟨rfl, rfl, rfl, by decide +kernel, rfl, by decide +kernel, by decide +kernel⟩
theorem sc_add : FnScope ["self", "word", "stop", "start"] ["self", "word"] (defScope s_add) := ⟨rfl, rfl, rfl, by decide +kernel, rfl, by decide +kernel, by decide +kernel⟩
theorem sc_drop : FnScope ["self", "stop", "start"] ["self"] (defScope s_drop) := ⟨rfl, rfl, rfl, by decide +kernel, rfl, by decide +kernel, by decide +kernel⟩
theorem sc_restAM : FnScope ["self", "start", "limit", "known", "found"] ["self", "start", "limit", "known"] (defScope s_restAM) := ⟨rfl, rfl, rfl, by decide +kernel, rfl, by decide +kernel, by decide +kernel⟩
theorem sc_begun : FnScope ["self", "start", "limit", "known", "best", "at", "row", "count", "rest"] ["self", "start", "limit", "known"] (defScope s_begun) := ⟨rfl, rfl, rfl, by decide +kernel, rfl, by decide +kernel, by decide +kernel⟩
theorem sc_first : FnScope ["self", "limit", "known", "best", "row", "rest", "_", "value"] ["self", "limit", "known"] (defScope s_first) := ⟨rfl, rfl, rfl, by decide +kernel, rfl, by decide +kernel, by decide +kernel⟩
theorem sc_atMost : FnScope ["self", "start", "limit", "known", "stop", "best", "value", "row", "top", "count", "rest"] ["self", "start", "limit", "known"] (defScope s_atMost) := ⟨rfl, rfl, rfl, by decide +kernel, rfl, by decide +kernel, by decide +kernel⟩
theorem sc_greatest : FnScope ["self", "row", "limit", "found"] ["self"] (defScope s_greatest) := ⟨rfl, rfl, rfl, by decide +kernel, rfl, by decide +kernel, by decide +kernel⟩
theorem sc_least : FnScope ["self", "found", "_", "value", "row"] ["self"] (defScope s_least) := ⟨rfl, rfl, rfl, by decide +kernel, rfl, by decide +kernel, by decide +kernel⟩
theorem sc_meanings : FnScope ["self"] ["self"] (defScope s_meanings) := ⟨rfl, rfl, rfl, by decide +kernel, rfl, by decide +kernel, by decide +kernel⟩
theorem sc_bounds : FnScope ["self"] ["self"] (defScope s_bounds) := ⟨rfl, rfl, rfl, by decide +kernel, rfl, by decide +kernel, by decide +kernel⟩
theorem sc_push : FnScope ["self", "word"] ["self", "word"] (defScope s_push) := ⟨rfl, rfl, rfl, by decide +kernel, rfl, by decide +kernel, by decide +kernel⟩
theorem sc_pop : FnScope ["self"] ["self"] (defScope s_pop) := ⟨rfl, rfl, rfl, by decide +kernel, rfl, by decide +kernel, by decide +kernel⟩
theorem sc_allows : FnScope ["self", "value"] ["self", "value"] (defScope s_allows) := ⟨rfl, rfl, rfl, by decide +kernel, rfl, by decide +kernel, by decide +kernel⟩
theorem sc_lPool : FnScope ["_law_script", "_law_cell"] ["_law_script"] (defScope s_lPool) := ⟨rfl, rfl, rfl, by decide +kernel, rfl, by decide +kernel, by decide +kernel⟩
theorem sc_lTake : FnScope ["_law_pool_here", "_law_many", "_law_digit", "_law_cell", "_law_mixed"] ["_law_pool_here", "_law_many"] (defScope s_lTake) := ⟨rfl, rfl, rfl, by decide +kernel, rfl, by decide +kernel, by decide +kernel⟩
theorem sc_lWord : FnScope ["_law_pool_here", "_law_seen", "_law_letters", "_law_size", "_law_word_here", "_law_free", "_law_k", "_law_one"] ["_law_pool_here", "_law_seen"] (defScope s_lWord) := ⟨rfl, rfl, rfl, by decide +kernel, rfl, by decide +kernel, by decide +kernel⟩
theorem sc_lRows : FnScope ["_law_pool_here", "_law_most", "_law_high", "_law_counts", "_law_seen", "_law_simple", "_law_k", "_law_multipliers", "_law_value", "_law_count", "_law_rest", "_law_row"] ["_law_pool_here", "_law_most", "_law_high", "_law_counts"] (defScope s_lRows) := ⟨rfl, rfl, rfl, by decide +kernel, rfl, by decide +kernel, by decide +kernel⟩
theorem sc_lIsInt : FnScope ["_law_actual"] ["_law_actual"] (defScope s_lIsInt) := ⟨rfl, rfl, rfl, by decide +kernel, rfl, by decide +kernel, by decide +kernel⟩
theorem sc_lSame : FnScope ["_law_actual", "_law_due", "_law_k"] ["_law_actual", "_law_due"] (defScope s_lSame) := ⟨rfl, rfl, rfl, by decide +kernel, rfl, by decide +kernel, by decide +kernel⟩
theorem sc_lTried : FnScope ["_law_reader", "_law_system", "_law_numbers", "_law_found", "_law_words", "_law_word_here", "_law_before", "_law_told", "_law_value"] ["_law_reader", "_law_system", "_law_numbers"] (defScope s_lTried) := ⟨rfl, rfl, rfl, by decide +kernel, rfl, by decide +kernel, by decide +kernel⟩
theorem sc_lStage : FnScope ["_law_reader", "_law_system", "_law_least", "_law_greatest", "_law_sums", "_law_numbers", "_law_value", "_law_told", "_law_due", "_law_row", "_law_spoken"] ["_law_reader", "_law_system"] (defScope s_lStage) := ⟨rfl, rfl, rfl, by decide +kernel, rfl, by decide +kernel, by decide +kernel⟩
theorem sc_lStarts : FnScope ["_law_rows_here", "_law_number", "_law_known", "_law_found", "_law_word_here", "_law_value", "_law_most", "_law_is_unsaid", "_law_last", "_law_count", "_law_rest"] ["_law_rows_here", "_law_number", "_law_known"] (defScope s_lStarts) := ⟨rfl, rfl, rfl, by decide +kernel, rfl, by decide +kernel, by decide +kernel⟩
theorem sc_lBegins : FnScope ["_law_rows_here", "_law_reader", "_law_known", "_law_number", "_law_starts_here", "_law_word_here"] ["_law_rows_here", "_law_reader"] (defScope s_lBegins) := ⟨rfl, rfl, rfl, by decide +kernel, rfl, by decide +kernel, by decide +kernel⟩
theorem sc_law : FnScope ["_law_script", "_law_pool_here", "_law_rows_here", "_law_system", "_law_reader", "_law_turn", "_law_words"] ["_law_script"] (defScope s_law) := ⟨rfl, rfl, rfl, by decide +kernel, rfl, by decide +kernel, by decide +kernel⟩
/-- where the top's defs and classes stand -/
structure Ad where
  (f_isWord f_simpleFault f_multFault f_checkRows f_checkWords f_checkEndless f_sysInit f_sysWords f_simpleValue f_multiplier f_endless f_bmax f_isSpoken f_rdInit f_rdWords f_counts f_rests f_derived f_add f_drop f_restAM f_begun f_first f_atMost f_greatest f_least f_meanings f_bounds f_push f_pop f_allows f_lPool f_lTake f_lWord f_lRows f_lIsInt f_lSame f_lTried f_lStage f_lStarts f_lBegins f_law : Addr)
  (d_isWord d_simpleFault d_multFault d_checkRows d_checkWords d_checkEndless d_sysInit d_sysWords d_simpleValue d_multiplier d_endless d_bmax d_isSpoken d_rdInit d_rdWords d_counts d_rests d_derived d_add d_drop d_restAM d_begun d_first d_atMost d_greatest d_least d_meanings d_bounds d_push d_pop d_allows d_lPool d_lTake d_lWord d_lRows d_lIsInt d_lSame d_lTried d_lStage d_lStarts d_lBegins d_law : FuncData)
  (cSys cRd cNP : Addr)
structure Txt (K : PySem.W.Frag) (mg : Str → Option Value) (a : Ad) : Prop where
  F_isWord : Fun K "is_word" "is_word" s_isWord a.f_isWord a.d_isWord
  b_isWord : Binds K a.d_isWord ["text"] []
  m_isWord : mg "is_word" = some (.ref a.f_isWord)
  F_simpleFault : Fun K "simple_fault" "simple_fault" s_simpleFault a.f_simpleFault a.d_simpleFault
  b_simpleFault : Binds K a.d_simpleFault ["row"] []
  m_simpleFault : mg "simple_fault" = some (.ref a.f_simpleFault)
  F_multFault : Fun K "multiplier_fault" "multiplier_fault" s_multFault a.f_multFault a.d_multFault
  b_multFault : Binds K a.d_multFault ["row"] []
  m_multFault : mg "multiplier_fault" = some (.ref a.f_multFault)
  F_checkRows : Fun K "check_rows" "check_rows" s_checkRows a.f_checkRows a.d_checkRows
  b_checkRows : Binds K a.d_checkRows ["part", "rows", "most"] []
  m_checkRows : mg "check_rows" = some (.ref a.f_checkRows)
  F_checkWords : Fun K "check_words" "check_words" s_checkWords a.f_checkWords a.d_checkWords
  b_checkWords : Binds K a.d_checkWords ["simple", "multipliers"] []
  m_checkWords : mg "check_words" = some (.ref a.f_checkWords)
  F_checkEndless : Fun K "check_endless" "check_endless" s_checkEndless a.f_checkEndless a.d_checkEndless
  b_checkEndless : Binds K a.d_checkEndless ["multipliers"] []
  m_checkEndless : mg "check_endless" = some (.ref a.f_checkEndless)
  F_sysInit : Fun K "__init__" "System.__init__" s_sysInit a.f_sysInit a.d_sysInit
  b_sysInit : Binds K a.d_sysInit ["self", "simple", "multipliers"] []
  e_sysInit : Meth K a.cSys "__init__" a.f_sysInit
  F_sysWords : Fun K "words" "System.words" s_sysWords a.f_sysWords a.d_sysWords
  b_sysWords : Binds K a.d_sysWords ["self"] []
  e_sysWords : Meth K a.cSys "words" a.f_sysWords
  F_simpleValue : Fun K "simple_value" "System.simple_value" s_simpleValue a.f_simpleValue a.d_simpleValue
  b_simpleValue : Binds K a.d_simpleValue ["self", "word"] []
  e_simpleValue : Meth K a.cSys "simple_value" a.f_simpleValue
  F_multiplier : Fun K "multiplier" "System.multiplier" s_multiplier a.f_multiplier a.d_multiplier
  b_multiplier : Binds K a.d_multiplier ["self", "word"] []
  e_multiplier : Meth K a.cSys "multiplier" a.f_multiplier
  F_endless : Fun K "endless" "System.endless" s_endless a.f_endless a.d_endless
  b_endless : Binds K a.d_endless ["self"] []
  e_endless : Meth K a.cSys "endless" a.f_endless
  F_bmax : Fun K "bounded_maximum" "System.bounded_maximum" s_bmax a.f_bmax a.d_bmax
  b_bmax : Binds K a.d_bmax ["self"] []
  e_bmax : Meth K a.cSys "bounded_maximum" a.f_bmax
  F_isSpoken : Fun K "is_spoken" "is_spoken" s_isSpoken a.f_isSpoken a.d_isSpoken
  b_isSpoken : Binds K a.d_isSpoken ["row", "count"] []
  m_isSpoken : mg "is_spoken" = some (.ref a.f_isSpoken)
  F_rdInit : Fun K "__init__" "Reader.__init__" s_rdInit a.f_rdInit a.d_rdInit
  b_rdInit : Binds K a.d_rdInit ["self", "system"] []
  e_rdInit : Meth K a.cRd "__init__" a.f_rdInit
  F_rdWords : Fun K "words" "Reader.words" s_rdWords a.f_rdWords a.d_rdWords
  b_rdWords : Binds K a.d_rdWords ["self"] []
  e_rdWords : Meth K a.cRd "words" a.f_rdWords
  F_counts : Fun K "_counts" "Reader._counts" s_counts a.f_counts a.d_counts
  b_counts : Binds K a.d_counts ["self", "row", "start", "at"] []
  e_counts : Meth K a.cRd "_counts" a.f_counts
  F_rests : Fun K "_rests" "Reader._rests" s_rests a.f_rests a.d_rests
  b_rests : Binds K a.d_rests ["self", "row", "start", "stop"] []
  e_rests : Meth K a.cRd "_rests" a.f_rests
  F_derived : Fun K "_derived" "Reader._derived" s_derived a.f_derived a.d_derived
  b_derived : Binds K a.d_derived ["self", "start", "stop"] []
  e_derived : Meth K a.cRd "_derived" a.f_derived
  F_add : Fun K "_add" "Reader._add" s_add a.f_add a.d_add
  b_add : Binds K a.d_add ["self", "word"] []
  e_add : Meth K a.cRd "_add" a.f_add
  F_drop : Fun K "_drop" "Reader._drop" s_drop a.f_drop a.d_drop
  b_drop : Binds K a.d_drop ["self"] []
  e_drop : Meth K a.cRd "_drop" a.f_drop
  F_restAM : Fun K "_rest_at_most" "Reader._rest_at_most" s_restAM a.f_restAM a.d_restAM
  b_restAM : Binds K a.d_restAM ["self", "start", "limit", "known"] []
  e_restAM : Meth K a.cRd "_rest_at_most" a.f_restAM
  F_begun : Fun K "_begun" "Reader._begun" s_begun a.f_begun a.d_begun
  b_begun : Binds K a.d_begun ["self", "start", "limit", "known"] []
  e_begun : Meth K a.cRd "_begun" a.f_begun
  F_first : Fun K "_first" "Reader._first" s_first a.f_first a.d_first
  b_first : Binds K a.d_first ["self", "limit", "known"] []
  e_first : Meth K a.cRd "_first" a.f_first
  F_atMost : Fun K "_at_most" "Reader._at_most" s_atMost a.f_atMost a.d_atMost
  b_atMost : Binds K a.d_atMost ["self", "start", "limit", "known"] []
  e_atMost : Meth K a.cRd "_at_most" a.f_atMost
  F_greatest : Fun K "_greatest" "Reader._greatest" s_greatest a.f_greatest a.d_greatest
  b_greatest : Binds K a.d_greatest ["self"] []
  e_greatest : Meth K a.cRd "_greatest" a.f_greatest
  F_least : Fun K "_least" "Reader._least" s_least a.f_least a.d_least
  b_least : Binds K a.d_least ["self"] []
  e_least : Meth K a.cRd "_least" a.f_least
  F_meanings : Fun K "meanings" "Reader.meanings" s_meanings a.f_meanings a.d_meanings
  b_meanings : Binds K a.d_meanings ["self"] []
  e_meanings : Meth K a.cRd "meanings" a.f_meanings
  F_bounds : Fun K "bounds" "Reader.bounds" s_bounds a.f_bounds a.d_bounds
  b_bounds : Binds K a.d_bounds ["self"] []
  e_bounds : Meth K a.cRd "bounds" a.f_bounds
  F_push : Fun K "push" "Reader.push" s_push a.f_push a.d_push
  b_push : Binds K a.d_push ["self", "word"] []
  e_push : Meth K a.cRd "push" a.f_push
  F_pop : Fun K "pop" "Reader.pop" s_pop a.f_pop a.d_pop
  b_pop : Binds K a.d_pop ["self"] []
  e_pop : Meth K a.cRd "pop" a.f_pop
  F_allows : Fun K "allows" "Reader.allows" s_allows a.f_allows a.d_allows
  b_allows : Binds K a.d_allows ["self", "value"] []
  e_allows : Meth K a.cRd "allows" a.f_allows
  F_lPool : Fun K "_law_pool" "_law_pool" s_lPool a.f_lPool a.d_lPool
  b_lPool : Binds K a.d_lPool ["_law_script"] []
  m_lPool : mg "_law_pool" = some (.ref a.f_lPool)
  F_lTake : Fun K "_law_take" "_law_take" s_lTake a.f_lTake a.d_lTake
  b_lTake : Binds K a.d_lTake ["_law_pool_here", "_law_many"] []
  m_lTake : mg "_law_take" = some (.ref a.f_lTake)
  F_lWord : Fun K "_law_word" "_law_word" s_lWord a.f_lWord a.d_lWord
  b_lWord : Binds K a.d_lWord ["_law_pool_here", "_law_seen"] []
  m_lWord : mg "_law_word" = some (.ref a.f_lWord)
  F_lRows : Fun K "_law_rows" "_law_rows" s_lRows a.f_lRows a.d_lRows
  b_lRows : Binds K a.d_lRows ["_law_pool_here", "_law_most", "_law_high", "_law_counts"] []
  m_lRows : mg "_law_rows" = some (.ref a.f_lRows)
  F_lIsInt : Fun K "_law_is_integer" "_law_is_integer" s_lIsInt a.f_lIsInt a.d_lIsInt
  b_lIsInt : Binds K a.d_lIsInt ["_law_actual"] []
  m_lIsInt : mg "_law_is_integer" = some (.ref a.f_lIsInt)
  F_lSame : Fun K "_law_same" "_law_same" s_lSame a.f_lSame a.d_lSame
  b_lSame : Binds K a.d_lSame ["_law_actual", "_law_due"] []
  m_lSame : mg "_law_same" = some (.ref a.f_lSame)
  F_lTried : Fun K "_law_tried" "_law_tried" s_lTried a.f_lTried a.d_lTried
  b_lTried : Binds K a.d_lTried ["_law_reader", "_law_system", "_law_numbers"] []
  m_lTried : mg "_law_tried" = some (.ref a.f_lTried)
  F_lStage : Fun K "_law_stage" "_law_stage" s_lStage a.f_lStage a.d_lStage
  b_lStage : Binds K a.d_lStage ["_law_reader", "_law_system"] []
  m_lStage : mg "_law_stage" = some (.ref a.f_lStage)
  F_lStarts : Fun K "_law_starts" "_law_starts" s_lStarts a.f_lStarts a.d_lStarts
  b_lStarts : Binds K a.d_lStarts ["_law_rows_here", "_law_number", "_law_known"] []
  m_lStarts : mg "_law_starts" = some (.ref a.f_lStarts)
  F_lBegins : Fun K "_law_begins_so" "_law_begins_so" s_lBegins a.f_lBegins a.d_lBegins
  b_lBegins : Binds K a.d_lBegins ["_law_rows_here", "_law_reader"] []
  m_lBegins : mg "_law_begins_so" = some (.ref a.f_lBegins)
  F_law : Fun K "law" "law" s_law a.f_law a.d_law
  b_law : Binds K a.d_law ["_law_script"] []
  m_law : mg "law" = some (.ref a.f_law)
  cl_cSys : Cls K a.cSys
  mk_cSys : Mk K a.cSys a.f_sysInit
  m_cSys : mg "System" = some (.ref a.cSys)
  n_cSys_simple : NoAttr K a.cSys "simple"
  n_cSys_multipliers : NoAttr K a.cSys "multipliers"
  n_cSys__values : NoAttr K a.cSys "_values"
  n_cSys__rows : NoAttr K a.cSys "_rows"
  cl_cRd : Cls K a.cRd
  mk_cRd : Mk K a.cRd a.f_rdInit
  m_cRd : mg "Reader" = some (.ref a.cRd)
  n_cRd__system : NoAttr K a.cRd "_system"
  n_cRd__words : NoAttr K a.cRd "_words"
  n_cRd__values : NoAttr K a.cRd "_values"
  z_len : mg "len" = none
  z_all : mg "all" = none
  z_enumerate : mg "enumerate" = none
  z_tuple : mg "tuple" = none
  z_max : mg "max" = none
  z_min : mg "min" = none
  z_range : mg "range" = none
  z_sorted : mg "sorted" = none
  z_isinstance : mg "isinstance" = none
  z_int : mg "int" = none
  z_bool : mg "bool" = none
  z_str : mg "str" = none
  z_list : mg "list" = none
  z_set : mg "set" = none
  k_MOST_LETTERS : ∃ u, mg "MOST_LETTERS" = some u ∧ RelV (.int 8) u
  k_MOST_SIMPLE : ∃ u, mg "MOST_SIMPLE" = some u ∧ RelV (.int 24) u
  k_MOST_MULTIPLIERS : ∃ u, mg "MOST_MULTIPLIERS" = some u ∧ RelV (.int 6) u
  k_MOST_VALUE : ∃ u, mg "MOST_VALUE" = some u ∧ RelV (.int 100000) u
  k_MOST_WORDS : ∃ u, mg "MOST_WORDS" = some u ∧ RelV (.int 24) u
  k_LETTERS : ∃ u, mg "LETTERS" = some u ∧ RelV (.str "abcdefghijklmnopqrstuvwxyz") u
  gNP : mg "NotPossible" = some (.ref a.cNP)
  xNP : PySem.W.excIn K a.cNP [.type "ValueError", .type "Exception", .type "BaseException", .type "object"] "ValueError.__new__" = true
  kNP : PySem.W.keepIn K (.ref a.cNP) = true
  bNP : PySem.W.subIn K (.ref a.cNP) (.type "BaseException") = some true
  tNP : PySem.W.typeIn K (.ref a.cNP) = some (.type "type")
  eNP : PySem.W.exmOne K (.ref a.cNP) (.ref a.cNP) = some true
/-- an error of the class at S is what «except S» names -/
theorem exm_own {K : PySem.W.Frag} {S : Addr} (h1 : PySem.W.subIn K (.ref S) (.type "BaseException") = some true) (h2 : PySem.W.isClsIn K S = true) (h3 : PySem.W.typeIn K (.ref S) = some (.type "type")) (h4 : PySem.W.subIn K (.ref S) (.ref S) = some true) :
    PySem.W.exmOne K (.ref S) (.ref S) = some true := by
  have e1 : (PySem.W.subIn K (.ref S) (.type "BaseException") == some true) = true := by rw [h1] <;> rfl
  have e2 : ((PySem.W.clsIn K S).isSome && PySem.W.typeIn K (.ref S) == some (.type "type")) = true := by
    rw [show (PySem.W.clsIn K S).isSome = true from h2, h3] <;> rfl
  show (if (PySem.W.subIn K (.ref S) (.type "BaseException") == some true) = true then (if ((PySem.W.clsIn K S).isSome && PySem.W.typeIn K (.ref S) == some (.type "type")) = true then PySem.W.subIn K (.ref S) (.ref S) else none) else none) = some true
  rw [if_pos e1, if_pos e2]
  exact h4
theorem all_mk {K : PySem.W.Frag} {h : Heap} {mg : Str → Option Value} {fa cSys cRd cNP f0 f1 f2 f3 f4 f5 f6 f7 f8 f9 f10 f11 f12 f13 f14 f15 f16 f17 f18 f19 f20 f21 f22 f23 f24 f25 f26 f27 f28 f29 f30 f31 f32 f33 f34 f35 f36 f37 f38 f39 f40 f41 : Addr} (X : K.In h) (G : h.Ns mainGlobals mg) (hfa : mg "law" = some (.ref fa))
    {od0 an0 od1 an1 od2 an2 od3 an3 od4 an4 od5 an5 od6 an6 od7 an7 od8 an8 od9 an9 od10 an10 od11 an11 od12 an12 od13 an13 od14 an14 od15 an15 od16 an16 od17 an17 od18 an18 od19 an19 od20 an20 od21 an21 od22 an22 od23 an23 od24 an24 od25 an25 od26 an26 od27 an27 od28 an28 od29 an29 od30 an30 od31 an31 od32 an32 od33 an33 od34 an34 od35 an35 od36 an36 od37 an37 od38 an38 od39 an39 od40 an40 od41 an41 : Option Addr} {sl0 sl1 sl2 sl3 sl4 sl5 sl6 sl7 sl8 sl9 sl10 sl11 sl12 sl13 sl14 sl15 sl16 sl17 sl18 sl19 sl20 sl21 sl22 sl23 sl24 sl25 sl26 sl27 sl28 sl29 sl30 sl31 sl32 sl33 sl34 sl35 sl36 sl37 sl38 sl39 sl40 sl41 : Array (Option Value)} {oc0 kV0 dc0 pm0 cd0 ct0 oc1 kV1 dc1 pm1 cd1 ct1 oc2 kV2 dc2 pm2 cd2 ct2 oc3 kV3 dc3 pm3 cd3 ct3 oc4 kV4 dc4 pm4 cd4 ct4 oc5 kV5 dc5 pm5 cd5 ct5 oc6 kV6 dc6 pm6 cd6 ct6 oc7 kV7 dc7 pm7 cd7 ct7 oc8 kV8 dc8 pm8 cd8 ct8 oc9 kV9 dc9 pm9 cd9 ct9 oc10 kV10 dc10 pm10 cd10 ct10 oc11 kV11 dc11 pm11 cd11 ct11 oc12 kV12 dc12 pm12 cd12 ct12 oc13 kV13 dc13 pm13 cd13 ct13 oc14 kV14 dc14 pm14 cd14 ct14 oc15 kV15 dc15 pm15 cd15 ct15 oc16 kV16 dc16 pm16 cd16 ct16 oc17 kV17 dc17 pm17 cd17 ct17 oc18 kV18 dc18 pm18 cd18 ct18 oc19 kV19 dc19 pm19 cd19 ct19 oc20 kV20 dc20 pm20 cd20 ct20 oc21 kV21 dc21 pm21 cd21 ct21 oc22 kV22 dc22 pm22 cd22 ct22 oc23 kV23 dc23 pm23 cd23 ct23 oc24 kV24 dc24 pm24 cd24 ct24 oc25 kV25 dc25 pm25 cd25 ct25 oc26 kV26 dc26 pm26 cd26 ct26 oc27 kV27 dc27 pm27 cd27 ct27 oc28 kV28 dc28 pm28 cd28 ct28 oc29 kV29 dc29 pm29 cd29 ct29 oc30 kV30 dc30 pm30 cd30 ct30 oc31 kV31 dc31 pm31 cd31 ct31 oc32 kV32 dc32 pm32 cd32 ct32 oc33 kV33 dc33 pm33 cd33 ct33 oc34 kV34 dc34 pm34 cd34 ct34 oc35 kV35 dc35 pm35 cd35 ct35 oc36 kV36 dc36 pm36 cd36 ct36 oc37 kV37 dc37 pm37 cd37 ct37 oc38 kV38 dc38 pm38 cd38 ct38 oc39 kV39 dc39 pm39 cd39 ct39 oc40 kV40 dc40 pm40 cd40 ct40 oc41 kV41 dc41 pm41 cd41 ct41 : Value} {tMOST_LETTERS tMOST_SIMPLE tMOST_MULTIPLIERS tMOST_VALUE tMOST_WORDS tLETTERS : Tok}
    (acSys : PySem.W.nsIn K mainGlobals "System" = some (some (.ref cSys)))
    (acRd : PySem.W.nsIn K mainGlobals "Reader" = some (some (.ref cRd)))
    (a0 : PySem.W.nsIn K mainGlobals "is_word" = some (some (.ref f0)))
    (l0 : K.lookup f0 = some ⟨oc0, od0, .func (PySem.W.fnOf "is_word" "is_word" (defArgs s_isWord) (defBody s_isWord) (defScope s_isWord) .none kV0 dc0 pm0 an0 cd0 ct0), sl0⟩)
    (c0 : PySem.W.codeIn K cd0 "is_word" = true)
    (k0 : PySem.W.keepIn K (.ref f0) = true)
    (a1 : PySem.W.nsIn K mainGlobals "simple_fault" = some (some (.ref f1)))
    (l1 : K.lookup f1 = some ⟨oc1, od1, .func (PySem.W.fnOf "simple_fault" "simple_fault" (defArgs s_simpleFault) (defBody s_simpleFault) (defScope s_simpleFault) .none kV1 dc1 pm1 an1 cd1 ct1), sl1⟩)
    (c1 : PySem.W.codeIn K cd1 "simple_fault" = true)
    (k1 : PySem.W.keepIn K (.ref f1) = true)
    (a2 : PySem.W.nsIn K mainGlobals "multiplier_fault" = some (some (.ref f2)))
    (l2 : K.lookup f2 = some ⟨oc2, od2, .func (PySem.W.fnOf "multiplier_fault" "multiplier_fault" (defArgs s_multFault) (defBody s_multFault) (defScope s_multFault) .none kV2 dc2 pm2 an2 cd2 ct2), sl2⟩)
    (c2 : PySem.W.codeIn K cd2 "multiplier_fault" = true)
    (k2 : PySem.W.keepIn K (.ref f2) = true)
    (a3 : PySem.W.nsIn K mainGlobals "check_rows" = some (some (.ref f3)))
    (l3 : K.lookup f3 = some ⟨oc3, od3, .func (PySem.W.fnOf "check_rows" "check_rows" (defArgs s_checkRows) (defBody s_checkRows) (defScope s_checkRows) .none kV3 dc3 pm3 an3 cd3 ct3), sl3⟩)
    (c3 : PySem.W.codeIn K cd3 "check_rows" = true)
    (k3 : PySem.W.keepIn K (.ref f3) = true)
    (a4 : PySem.W.nsIn K mainGlobals "check_words" = some (some (.ref f4)))
    (l4 : K.lookup f4 = some ⟨oc4, od4, .func (PySem.W.fnOf "check_words" "check_words" (defArgs s_checkWords) (defBody s_checkWords) (defScope s_checkWords) .none kV4 dc4 pm4 an4 cd4 ct4), sl4⟩)
    (c4 : PySem.W.codeIn K cd4 "check_words" = true)
    (k4 : PySem.W.keepIn K (.ref f4) = true)
    (a5 : PySem.W.nsIn K mainGlobals "check_endless" = some (some (.ref f5)))
    (l5 : K.lookup f5 = some ⟨oc5, od5, .func (PySem.W.fnOf "check_endless" "check_endless" (defArgs s_checkEndless) (defBody s_checkEndless) (defScope s_checkEndless) .none kV5 dc5 pm5 an5 cd5 ct5), sl5⟩)
    (c5 : PySem.W.codeIn K cd5 "check_endless" = true)
    (k5 : PySem.W.keepIn K (.ref f5) = true)
    (a6 : PySem.W.findIn K (.ref cSys) "__init__" = some (some (.ref f6)))
    (i6 : PySem.W.isFn K (.ref f6) = true)
    (l6 : K.lookup f6 = some ⟨oc6, od6, .func (PySem.W.fnOf "__init__" "System.__init__" (defArgs s_sysInit) (defBody s_sysInit) (defScope s_sysInit) .none kV6 dc6 pm6 an6 cd6 ct6), sl6⟩)
    (c6 : PySem.W.codeIn K cd6 "System.__init__" = true)
    (k6 : PySem.W.keepIn K (.ref f6) = true)
    (a7 : PySem.W.findIn K (.ref cSys) "words" = some (some (.ref f7)))
    (i7 : PySem.W.isFn K (.ref f7) = true)
    (l7 : K.lookup f7 = some ⟨oc7, od7, .func (PySem.W.fnOf "words" "System.words" (defArgs s_sysWords) (defBody s_sysWords) (defScope s_sysWords) .none kV7 dc7 pm7 an7 cd7 ct7), sl7⟩)
    (c7 : PySem.W.codeIn K cd7 "System.words" = true)
    (k7 : PySem.W.keepIn K (.ref f7) = true)
    (a8 : PySem.W.findIn K (.ref cSys) "simple_value" = some (some (.ref f8)))
    (i8 : PySem.W.isFn K (.ref f8) = true)
    (l8 : K.lookup f8 = some ⟨oc8, od8, .func (PySem.W.fnOf "simple_value" "System.simple_value" (defArgs s_simpleValue) (defBody s_simpleValue) (defScope s_simpleValue) .none kV8 dc8 pm8 an8 cd8 ct8), sl8⟩)
    (c8 : PySem.W.codeIn K cd8 "System.simple_value" = true)
    (k8 : PySem.W.keepIn K (.ref f8) = true)
    (a9 : PySem.W.findIn K (.ref cSys) "multiplier" = some (some (.ref f9)))
    (i9 : PySem.W.isFn K (.ref f9) = true)
    (l9 : K.lookup f9 = some ⟨oc9, od9, .func (PySem.W.fnOf "multiplier" "System.multiplier" (defArgs s_multiplier) (defBody s_multiplier) (defScope s_multiplier) .none kV9 dc9 pm9 an9 cd9 ct9), sl9⟩)
    (c9 : PySem.W.codeIn K cd9 "System.multiplier" = true)
    (k9 : PySem.W.keepIn K (.ref f9) = true)
    (a10 : PySem.W.findIn K (.ref cSys) "endless" = some (some (.ref f10)))
    (i10 : PySem.W.isFn K (.ref f10) = true)
    (l10 : K.lookup f10 = some ⟨oc10, od10, .func (PySem.W.fnOf "endless" "System.endless" (defArgs s_endless) (defBody s_endless) (defScope s_endless) .none kV10 dc10 pm10 an10 cd10 ct10), sl10⟩)
    (c10 : PySem.W.codeIn K cd10 "System.endless" = true)
    (k10 : PySem.W.keepIn K (.ref f10) = true)
    (a11 : PySem.W.findIn K (.ref cSys) "bounded_maximum" = some (some (.ref f11)))
    (i11 : PySem.W.isFn K (.ref f11) = true)
    (l11 : K.lookup f11 = some ⟨oc11, od11, .func (PySem.W.fnOf "bounded_maximum" "System.bounded_maximum" (defArgs s_bmax) (defBody s_bmax) (defScope s_bmax) .none kV11 dc11 pm11 an11 cd11 ct11), sl11⟩)
    (c11 : PySem.W.codeIn K cd11 "System.bounded_maximum" = true)
    (k11 : PySem.W.keepIn K (.ref f11) = true)
    (a12 : PySem.W.nsIn K mainGlobals "is_spoken" = some (some (.ref f12)))
    (l12 : K.lookup f12 = some ⟨oc12, od12, .func (PySem.W.fnOf "is_spoken" "is_spoken" (defArgs s_isSpoken) (defBody s_isSpoken) (defScope s_isSpoken) .none kV12 dc12 pm12 an12 cd12 ct12), sl12⟩)
    (c12 : PySem.W.codeIn K cd12 "is_spoken" = true)
    (k12 : PySem.W.keepIn K (.ref f12) = true)
    (a13 : PySem.W.findIn K (.ref cRd) "__init__" = some (some (.ref f13)))
    (i13 : PySem.W.isFn K (.ref f13) = true)
    (l13 : K.lookup f13 = some ⟨oc13, od13, .func (PySem.W.fnOf "__init__" "Reader.__init__" (defArgs s_rdInit) (defBody s_rdInit) (defScope s_rdInit) .none kV13 dc13 pm13 an13 cd13 ct13), sl13⟩)
    (c13 : PySem.W.codeIn K cd13 "Reader.__init__" = true)
    (k13 : PySem.W.keepIn K (.ref f13) = true)
    (a14 : PySem.W.findIn K (.ref cRd) "words" = some (some (.ref f14)))
    (i14 : PySem.W.isFn K (.ref f14) = true)
    (l14 : K.lookup f14 = some ⟨oc14, od14, .func (PySem.W.fnOf "words" "Reader.words" (defArgs s_rdWords) (defBody s_rdWords) (defScope s_rdWords) .none kV14 dc14 pm14 an14 cd14 ct14), sl14⟩)
    (c14 : PySem.W.codeIn K cd14 "Reader.words" = true)
    (k14 : PySem.W.keepIn K (.ref f14) = true)
    (a15 : PySem.W.findIn K (.ref cRd) "_counts" = some (some (.ref f15)))
    (i15 : PySem.W.isFn K (.ref f15) = true)
    (l15 : K.lookup f15 = some ⟨oc15, od15, .func (PySem.W.fnOf "_counts" "Reader._counts" (defArgs s_counts) (defBody s_counts) (defScope s_counts) .none kV15 dc15 pm15 an15 cd15 ct15), sl15⟩)
    (c15 : PySem.W.codeIn K cd15 "Reader._counts" = true)
    (k15 : PySem.W.keepIn K (.ref f15) = true)
    (a16 : PySem.W.findIn K (.ref cRd) "_rests" = some (some (.ref f16)))
    (i16 : PySem.W.isFn K (.ref f16) = true)
    (l16 : K.lookup f16 = some ⟨oc16, od16, .func (PySem.W.fnOf "_rests" "Reader._rests" (defArgs s_rests) (defBody s_rests) (defScope s_rests) .none kV16 dc16 pm16 an16 cd16 ct16), sl16⟩)
    (c16 : PySem.W.codeIn K cd16 "Reader._rests" = true)
    (k16 : PySem.W.keepIn K (.ref f16) = true)
    (a17 : PySem.W.findIn K (.ref cRd) "_derived" = some (some (.ref f17)))
    (i17 : PySem.W.isFn K (.ref f17) = true)
    (l17 : K.lookup f17 = some ⟨oc17, od17, .func (PySem.W.fnOf "_derived" "Reader._derived" (defArgs s_derived) (defBody s_derived) (defScope s_derived) .none kV17 dc17 pm17 an17 cd17 ct17), sl17⟩)
    (c17 : PySem.W.codeIn K cd17 "Reader._derived" = true)
    (k17 : PySem.W.keepIn K (.ref f17) = true)
    (a18 : PySem.W.findIn K (.ref cRd) "_add" = some (some (.ref f18)))
    (i18 : PySem.W.isFn K (.ref f18) = true)
    (l18 : K.lookup f18 = some ⟨oc18, od18, .func (PySem.W.fnOf "_add" "Reader._add" (defArgs s_add) (defBody s_add) (defScope s_add) .none kV18 dc18 pm18 an18 cd18 ct18), sl18⟩)
    (c18 : PySem.W.codeIn K cd18 "Reader._add" = true)
    (k18 : PySem.W.keepIn K (.ref f18) = true)
    (a19 : PySem.W.findIn K (.ref cRd) "_drop" = some (some (.ref f19)))
    (i19 : PySem.W.isFn K (.ref f19) = true)
    (l19 : K.lookup f19 = some ⟨oc19, od19, .func (PySem.W.fnOf "_drop" "Reader._drop" (defArgs s_drop) (defBody s_drop) (defScope s_drop) .none kV19 dc19 pm19 an19 cd19 ct19), sl19⟩)
    (c19 : PySem.W.codeIn K cd19 "Reader._drop" = true)
    (k19 : PySem.W.keepIn K (.ref f19) = true)
    (a20 : PySem.W.findIn K (.ref cRd) "_rest_at_most" = some (some (.ref f20)))
    (i20 : PySem.W.isFn K (.ref f20) = true)
    (l20 : K.lookup f20 = some ⟨oc20, od20, .func (PySem.W.fnOf "_rest_at_most" "Reader._rest_at_most" (defArgs s_restAM) (defBody s_restAM) (defScope s_restAM) .none kV20 dc20 pm20 an20 cd20 ct20), sl20⟩)
    (c20 : PySem.W.codeIn K cd20 "Reader._rest_at_most" = true)
    (k20 : PySem.W.keepIn K (.ref f20) = true)
    (a21 : PySem.W.findIn K (.ref cRd) "_begun" = some (some (.ref f21)))
    (i21 : PySem.W.isFn K (.ref f21) = true)
    (l21 : K.lookup f21 = some ⟨oc21, od21, .func (PySem.W.fnOf "_begun" "Reader._begun" (defArgs s_begun) (defBody s_begun) (defScope s_begun) .none kV21 dc21 pm21 an21 cd21 ct21), sl21⟩)
    (c21 : PySem.W.codeIn K cd21 "Reader._begun" = true)
    (k21 : PySem.W.keepIn K (.ref f21) = true)
    (a22 : PySem.W.findIn K (.ref cRd) "_first" = some (some (.ref f22)))
    (i22 : PySem.W.isFn K (.ref f22) = true)
    (l22 : K.lookup f22 = some ⟨oc22, od22, .func (PySem.W.fnOf "_first" "Reader._first" (defArgs s_first) (defBody s_first) (defScope s_first) .none kV22 dc22 pm22 an22 cd22 ct22), sl22⟩)
    (c22 : PySem.W.codeIn K cd22 "Reader._first" = true)
    (k22 : PySem.W.keepIn K (.ref f22) = true)
    (a23 : PySem.W.findIn K (.ref cRd) "_at_most" = some (some (.ref f23)))
    (i23 : PySem.W.isFn K (.ref f23) = true)
    (l23 : K.lookup f23 = some ⟨oc23, od23, .func (PySem.W.fnOf "_at_most" "Reader._at_most" (defArgs s_atMost) (defBody s_atMost) (defScope s_atMost) .none kV23 dc23 pm23 an23 cd23 ct23), sl23⟩)
    (c23 : PySem.W.codeIn K cd23 "Reader._at_most" = true)
    (k23 : PySem.W.keepIn K (.ref f23) = true)
    (a24 : PySem.W.findIn K (.ref cRd) "_greatest" = some (some (.ref f24)))
    (i24 : PySem.W.isFn K (.ref f24) = true)
    (l24 : K.lookup f24 = some ⟨oc24, od24, .func (PySem.W.fnOf "_greatest" "Reader._greatest" (defArgs s_greatest) (defBody s_greatest) (defScope s_greatest) .none kV24 dc24 pm24 an24 cd24 ct24), sl24⟩)
    (c24 : PySem.W.codeIn K cd24 "Reader._greatest" = true)
    (k24 : PySem.W.keepIn K (.ref f24) = true)
    (a25 : PySem.W.findIn K (.ref cRd) "_least" = some (some (.ref f25)))
    (i25 : PySem.W.isFn K (.ref f25) = true)
    (l25 : K.lookup f25 = some ⟨oc25, od25, .func (PySem.W.fnOf "_least" "Reader._least" (defArgs s_least) (defBody s_least) (defScope s_least) .none kV25 dc25 pm25 an25 cd25 ct25), sl25⟩)
    (c25 : PySem.W.codeIn K cd25 "Reader._least" = true)
    (k25 : PySem.W.keepIn K (.ref f25) = true)
    (a26 : PySem.W.findIn K (.ref cRd) "meanings" = some (some (.ref f26)))
    (i26 : PySem.W.isFn K (.ref f26) = true)
    (l26 : K.lookup f26 = some ⟨oc26, od26, .func (PySem.W.fnOf "meanings" "Reader.meanings" (defArgs s_meanings) (defBody s_meanings) (defScope s_meanings) .none kV26 dc26 pm26 an26 cd26 ct26), sl26⟩)
    (c26 : PySem.W.codeIn K cd26 "Reader.meanings" = true)
    (k26 : PySem.W.keepIn K (.ref f26) = true)
    (a27 : PySem.W.findIn K (.ref cRd) "bounds" = some (some (.ref f27)))
    (i27 : PySem.W.isFn K (.ref f27) = true)
    (l27 : K.lookup f27 = some ⟨oc27, od27, .func (PySem.W.fnOf "bounds" "Reader.bounds" (defArgs s_bounds) (defBody s_bounds) (defScope s_bounds) .none kV27 dc27 pm27 an27 cd27 ct27), sl27⟩)
    (c27 : PySem.W.codeIn K cd27 "Reader.bounds" = true)
    (k27 : PySem.W.keepIn K (.ref f27) = true)
    (a28 : PySem.W.findIn K (.ref cRd) "push" = some (some (.ref f28)))
    (i28 : PySem.W.isFn K (.ref f28) = true)
    (l28 : K.lookup f28 = some ⟨oc28, od28, .func (PySem.W.fnOf "push" "Reader.push" (defArgs s_push) (defBody s_push) (defScope s_push) .none kV28 dc28 pm28 an28 cd28 ct28), sl28⟩)
    (c28 : PySem.W.codeIn K cd28 "Reader.push" = true)
    (k28 : PySem.W.keepIn K (.ref f28) = true)
    (a29 : PySem.W.findIn K (.ref cRd) "pop" = some (some (.ref f29)))
    (i29 : PySem.W.isFn K (.ref f29) = true)
    (l29 : K.lookup f29 = some ⟨oc29, od29, .func (PySem.W.fnOf "pop" "Reader.pop" (defArgs s_pop) (defBody s_pop) (defScope s_pop) .none kV29 dc29 pm29 an29 cd29 ct29), sl29⟩)
    (c29 : PySem.W.codeIn K cd29 "Reader.pop" = true)
    (k29 : PySem.W.keepIn K (.ref f29) = true)
    (a30 : PySem.W.findIn K (.ref cRd) "allows" = some (some (.ref f30)))
    (i30 : PySem.W.isFn K (.ref f30) = true)
    (l30 : K.lookup f30 = some ⟨oc30, od30, .func (PySem.W.fnOf "allows" "Reader.allows" (defArgs s_allows) (defBody s_allows) (defScope s_allows) .none kV30 dc30 pm30 an30 cd30 ct30), sl30⟩)
    (c30 : PySem.W.codeIn K cd30 "Reader.allows" = true)
    (k30 : PySem.W.keepIn K (.ref f30) = true)
    (a31 : PySem.W.nsIn K mainGlobals "_law_pool" = some (some (.ref f31)))
    (l31 : K.lookup f31 = some ⟨oc31, od31, .func (PySem.W.fnOf "_law_pool" "_law_pool" (defArgs s_lPool) (defBody s_lPool) (defScope s_lPool) .none kV31 dc31 pm31 an31 cd31 ct31), sl31⟩)
    (c31 : PySem.W.codeIn K cd31 "_law_pool" = true)
    (k31 : PySem.W.keepIn K (.ref f31) = true)
    (a32 : PySem.W.nsIn K mainGlobals "_law_take" = some (some (.ref f32)))
    (l32 : K.lookup f32 = some ⟨oc32, od32, .func (PySem.W.fnOf "_law_take" "_law_take" (defArgs s_lTake) (defBody s_lTake) (defScope s_lTake) .none kV32 dc32 pm32 an32 cd32 ct32), sl32⟩)
    (c32 : PySem.W.codeIn K cd32 "_law_take" = true)
    (k32 : PySem.W.keepIn K (.ref f32) = true)
    (a33 : PySem.W.nsIn K mainGlobals "_law_word" = some (some (.ref f33)))
    (l33 : K.lookup f33 = some ⟨oc33, od33, .func (PySem.W.fnOf "_law_word" "_law_word" (defArgs s_lWord) (defBody s_lWord) (defScope s_lWord) .none kV33 dc33 pm33 an33 cd33 ct33), sl33⟩)
    (c33 : PySem.W.codeIn K cd33 "_law_word" = true)
    (k33 : PySem.W.keepIn K (.ref f33) = true)
    (a34 : PySem.W.nsIn K mainGlobals "_law_rows" = some (some (.ref f34)))
    (l34 : K.lookup f34 = some ⟨oc34, od34, .func (PySem.W.fnOf "_law_rows" "_law_rows" (defArgs s_lRows) (defBody s_lRows) (defScope s_lRows) .none kV34 dc34 pm34 an34 cd34 ct34), sl34⟩)
    (c34 : PySem.W.codeIn K cd34 "_law_rows" = true)
    (k34 : PySem.W.keepIn K (.ref f34) = true)
    (a35 : PySem.W.nsIn K mainGlobals "_law_is_integer" = some (some (.ref f35)))
    (l35 : K.lookup f35 = some ⟨oc35, od35, .func (PySem.W.fnOf "_law_is_integer" "_law_is_integer" (defArgs s_lIsInt) (defBody s_lIsInt) (defScope s_lIsInt) .none kV35 dc35 pm35 an35 cd35 ct35), sl35⟩)
    (c35 : PySem.W.codeIn K cd35 "_law_is_integer" = true)
    (k35 : PySem.W.keepIn K (.ref f35) = true)
    (a36 : PySem.W.nsIn K mainGlobals "_law_same" = some (some (.ref f36)))
    (l36 : K.lookup f36 = some ⟨oc36, od36, .func (PySem.W.fnOf "_law_same" "_law_same" (defArgs s_lSame) (defBody s_lSame) (defScope s_lSame) .none kV36 dc36 pm36 an36 cd36 ct36), sl36⟩)
    (c36 : PySem.W.codeIn K cd36 "_law_same" = true)
    (k36 : PySem.W.keepIn K (.ref f36) = true)
    (a37 : PySem.W.nsIn K mainGlobals "_law_tried" = some (some (.ref f37)))
    (l37 : K.lookup f37 = some ⟨oc37, od37, .func (PySem.W.fnOf "_law_tried" "_law_tried" (defArgs s_lTried) (defBody s_lTried) (defScope s_lTried) .none kV37 dc37 pm37 an37 cd37 ct37), sl37⟩)
    (c37 : PySem.W.codeIn K cd37 "_law_tried" = true)
    (k37 : PySem.W.keepIn K (.ref f37) = true)
    (a38 : PySem.W.nsIn K mainGlobals "_law_stage" = some (some (.ref f38)))
    (l38 : K.lookup f38 = some ⟨oc38, od38, .func (PySem.W.fnOf "_law_stage" "_law_stage" (defArgs s_lStage) (defBody s_lStage) (defScope s_lStage) .none kV38 dc38 pm38 an38 cd38 ct38), sl38⟩)
    (c38 : PySem.W.codeIn K cd38 "_law_stage" = true)
    (k38 : PySem.W.keepIn K (.ref f38) = true)
    (a39 : PySem.W.nsIn K mainGlobals "_law_starts" = some (some (.ref f39)))
    (l39 : K.lookup f39 = some ⟨oc39, od39, .func (PySem.W.fnOf "_law_starts" "_law_starts" (defArgs s_lStarts) (defBody s_lStarts) (defScope s_lStarts) .none kV39 dc39 pm39 an39 cd39 ct39), sl39⟩)
    (c39 : PySem.W.codeIn K cd39 "_law_starts" = true)
    (k39 : PySem.W.keepIn K (.ref f39) = true)
    (a40 : PySem.W.nsIn K mainGlobals "_law_begins_so" = some (some (.ref f40)))
    (l40 : K.lookup f40 = some ⟨oc40, od40, .func (PySem.W.fnOf "_law_begins_so" "_law_begins_so" (defArgs s_lBegins) (defBody s_lBegins) (defScope s_lBegins) .none kV40 dc40 pm40 an40 cd40 ct40), sl40⟩)
    (c40 : PySem.W.codeIn K cd40 "_law_begins_so" = true)
    (k40 : PySem.W.keepIn K (.ref f40) = true)
    (a41 : PySem.W.nsIn K mainGlobals "law" = some (some (.ref f41)))
    (l41 : K.lookup f41 = some ⟨oc41, od41, .func (PySem.W.fnOf "law" "law" (defArgs s_law) (defBody s_law) (defScope s_law) .none kV41 dc41 pm41 an41 cd41 ct41), sl41⟩)
    (c41 : PySem.W.codeIn K cd41 "law" = true)
    (k41 : PySem.W.keepIn K (.ref f41) = true)
    (pgcSys : PySem.W.plainGet K cSys Str.empty = true)
    (hdcSys : PySem.W.hasDictIn K cSys = true)
    (pocSys : PySem.W.plainOver K cSys = true)
    (sacSys : PySem.W.findIn K (.ref cSys) "__setattr__" = some (some (.builtin "object.__setattr__")))
    (mkcSys : PySem.W.makesIn K cSys = true)
    (kccSys : PySem.W.keepIn K (.ref cSys) = true)
    (ncSyssimple : PySem.W.findIn K (.ref cSys) "simple" = some none)
    (ncSysmultipliers : PySem.W.findIn K (.ref cSys) "multipliers" = some none)
    (ncSys_values : PySem.W.findIn K (.ref cSys) "_values" = some none)
    (ncSys_rows : PySem.W.findIn K (.ref cSys) "_rows" = some none)
    (pgcRd : PySem.W.plainGet K cRd Str.empty = true)
    (hdcRd : PySem.W.hasDictIn K cRd = true)
    (pocRd : PySem.W.plainOver K cRd = true)
    (sacRd : PySem.W.findIn K (.ref cRd) "__setattr__" = some (some (.builtin "object.__setattr__")))
    (mkcRd : PySem.W.makesIn K cRd = true)
    (kccRd : PySem.W.keepIn K (.ref cRd) = true)
    (ncRd_system : PySem.W.findIn K (.ref cRd) "_system" = some none)
    (ncRd_words : PySem.W.findIn K (.ref cRd) "_words" = some none)
    (ncRd_values : PySem.W.findIn K (.ref cRd) "_values" = some none)
    (zlen : PySem.W.nsIn K mainGlobals "len" = some none)
    (zall : PySem.W.nsIn K mainGlobals "all" = some none)
    (zenumerate : PySem.W.nsIn K mainGlobals "enumerate" = some none)
    (ztuple : PySem.W.nsIn K mainGlobals "tuple" = some none)
    (zmax : PySem.W.nsIn K mainGlobals "max" = some none)
    (zmin : PySem.W.nsIn K mainGlobals "min" = some none)
    (zrange : PySem.W.nsIn K mainGlobals "range" = some none)
    (zsorted : PySem.W.nsIn K mainGlobals "sorted" = some none)
    (zisinstance : PySem.W.nsIn K mainGlobals "isinstance" = some none)
    (zint : PySem.W.nsIn K mainGlobals "int" = some none)
    (zbool : PySem.W.nsIn K mainGlobals "bool" = some none)
    (zstr : PySem.W.nsIn K mainGlobals "str" = some none)
    (zlist : PySem.W.nsIn K mainGlobals "list" = some none)
    (zset : PySem.W.nsIn K mainGlobals "set" = some none)
    (vMOST_LETTERS : PySem.W.nsIn K mainGlobals "MOST_LETTERS" = some (some (.int 8 tMOST_LETTERS)))
    (vMOST_SIMPLE : PySem.W.nsIn K mainGlobals "MOST_SIMPLE" = some (some (.int 24 tMOST_SIMPLE)))
    (vMOST_MULTIPLIERS : PySem.W.nsIn K mainGlobals "MOST_MULTIPLIERS" = some (some (.int 6 tMOST_MULTIPLIERS)))
    (vMOST_VALUE : PySem.W.nsIn K mainGlobals "MOST_VALUE" = some (some (.int 100000 tMOST_VALUE)))
    (vMOST_WORDS : PySem.W.nsIn K mainGlobals "MOST_WORDS" = some (some (.int 24 tMOST_WORDS)))
    (vLETTERS : PySem.W.nsIn K mainGlobals "LETTERS" = some (some (.str "abcdefghijklmnopqrstuvwxyz" tLETTERS)))
    (aNP : PySem.W.nsIn K mainGlobals "NotPossible" = some (some (.ref cNP)))
    (xNP : PySem.W.excIn K cNP [.type "ValueError", .type "Exception", .type "BaseException", .type "object"] "ValueError.__new__" = true)
    (kNP : PySem.W.keepIn K (.ref cNP) = true)
    (bNP : PySem.W.subIn K (.ref cNP) (.type "BaseException") = some true)
    (tNP : PySem.W.typeIn K (.ref cNP) = some (.type "type"))
    (iNP : PySem.W.isClsIn K cNP = true)
    (sNP : PySem.W.subIn K (.ref cNP) (.ref cNP) = some true)
    : ∃ a : Ad, Txt K mg a ∧ a.f_law = fa ∧ ∀ (s : Shared) (v : Value), BindsTo s a.d_law ⟨[v], []⟩ [("_law_script", v)] := by
  have e : fa = f41 := by
    have z := hfa.symm.trans (PySem.W.mg_of X G a41)
    injection z with z1
    injection z1
  have F0 := fun_mk (st := s_isWord) l0 c0 k0
  have b0 := F0.binds (ps := ["text"]) fun _ _ _ _ _ _ us hl => match us, hl with | [_], _ => rfl
  have F1 := fun_mk (st := s_simpleFault) l1 c1 k1
  have b1 := F1.binds (ps := ["row"]) fun _ _ _ _ _ _ us hl => match us, hl with | [_], _ => rfl
  have F2 := fun_mk (st := s_multFault) l2 c2 k2
  have b2 := F2.binds (ps := ["row"]) fun _ _ _ _ _ _ us hl => match us, hl with | [_], _ => rfl
  have F3 := fun_mk (st := s_checkRows) l3 c3 k3
  have b3 := F3.binds (ps := ["part", "rows", "most"]) fun _ _ _ _ _ _ us hl => match us, hl with | [_, _, _], _ => rfl
  have F4 := fun_mk (st := s_checkWords) l4 c4 k4
  have b4 := F4.binds (ps := ["simple", "multipliers"]) fun _ _ _ _ _ _ us hl => match us, hl with | [_, _], _ => rfl
  have F5 := fun_mk (st := s_checkEndless) l5 c5 k5
  have b5 := F5.binds (ps := ["multipliers"]) fun _ _ _ _ _ _ us hl => match us, hl with | [_], _ => rfl
  have F6 := fun_mk (st := s_sysInit) l6 c6 k6
  have b6 := F6.binds (ps := ["self", "simple", "multipliers"]) fun _ _ _ _ _ _ us hl => match us, hl with | [_, _, _], _ => rfl
  have F7 := fun_mk (st := s_sysWords) l7 c7 k7
  have b7 := F7.binds (ps := ["self"]) fun _ _ _ _ _ _ us hl => match us, hl with | [_], _ => rfl
  have F8 := fun_mk (st := s_simpleValue) l8 c8 k8
  have b8 := F8.binds (ps := ["self", "word"]) fun _ _ _ _ _ _ us hl => match us, hl with | [_, _], _ => rfl
  have F9 := fun_mk (st := s_multiplier) l9 c9 k9
  have b9 := F9.binds (ps := ["self", "word"]) fun _ _ _ _ _ _ us hl => match us, hl with | [_, _], _ => rfl
  have F10 := fun_mk (st := s_endless) l10 c10 k10
  have b10 := F10.binds (ps := ["self"]) fun _ _ _ _ _ _ us hl => match us, hl with | [_], _ => rfl
  have F11 := fun_mk (st := s_bmax) l11 c11 k11
  have b11 := F11.binds (ps := ["self"]) fun _ _ _ _ _ _ us hl => match us, hl with | [_], _ => rfl
  have F12 := fun_mk (st := s_isSpoken) l12 c12 k12
  have b12 := F12.binds (ps := ["row", "count"]) fun _ _ _ _ _ _ us hl => match us, hl with | [_, _], _ => rfl
  have F13 := fun_mk (st := s_rdInit) l13 c13 k13
  have b13 := F13.binds (ps := ["self", "system"]) fun _ _ _ _ _ _ us hl => match us, hl with | [_, _], _ => rfl
  have F14 := fun_mk (st := s_rdWords) l14 c14 k14
  have b14 := F14.binds (ps := ["self"]) fun _ _ _ _ _ _ us hl => match us, hl with | [_], _ => rfl
  have F15 := fun_mk (st := s_counts) l15 c15 k15
  have b15 := F15.binds (ps := ["self", "row", "start", "at"]) fun _ _ _ _ _ _ us hl => match us, hl with | [_, _, _, _], _ => rfl
  have F16 := fun_mk (st := s_rests) l16 c16 k16
  have b16 := F16.binds (ps := ["self", "row", "start", "stop"]) fun _ _ _ _ _ _ us hl => match us, hl with | [_, _, _, _], _ => rfl
  have F17 := fun_mk (st := s_derived) l17 c17 k17
  have b17 := F17.binds (ps := ["self", "start", "stop"]) fun _ _ _ _ _ _ us hl => match us, hl with | [_, _, _], _ => rfl
  have F18 := fun_mk (st := s_add) l18 c18 k18
  have b18 := F18.binds (ps := ["self", "word"]) fun _ _ _ _ _ _ us hl => match us, hl with | [_, _], _ => rfl
  have F19 := fun_mk (st := s_drop) l19 c19 k19
  have b19 := F19.binds (ps := ["self"]) fun _ _ _ _ _ _ us hl => match us, hl with | [_], _ => rfl
  have F20 := fun_mk (st := s_restAM) l20 c20 k20
  have b20 := F20.binds (ps := ["self", "start", "limit", "known"]) fun _ _ _ _ _ _ us hl => match us, hl with | [_, _, _, _], _ => rfl
  have F21 := fun_mk (st := s_begun) l21 c21 k21
  have b21 := F21.binds (ps := ["self", "start", "limit", "known"]) fun _ _ _ _ _ _ us hl => match us, hl with | [_, _, _, _], _ => rfl
  have F22 := fun_mk (st := s_first) l22 c22 k22
  have b22 := F22.binds (ps := ["self", "limit", "known"]) fun _ _ _ _ _ _ us hl => match us, hl with | [_, _, _], _ => rfl
  have F23 := fun_mk (st := s_atMost) l23 c23 k23
  have b23 := F23.binds (ps := ["self", "start", "limit", "known"]) fun _ _ _ _ _ _ us hl => match us, hl with | [_, _, _, _], _ => rfl
  have F24 := fun_mk (st := s_greatest) l24 c24 k24
  have b24 := F24.binds (ps := ["self"]) fun _ _ _ _ _ _ us hl => match us, hl with | [_], _ => rfl
  have F25 := fun_mk (st := s_least) l25 c25 k25
  have b25 := F25.binds (ps := ["self"]) fun _ _ _ _ _ _ us hl => match us, hl with | [_], _ => rfl
  have F26 := fun_mk (st := s_meanings) l26 c26 k26
  have b26 := F26.binds (ps := ["self"]) fun _ _ _ _ _ _ us hl => match us, hl with | [_], _ => rfl
  have F27 := fun_mk (st := s_bounds) l27 c27 k27
  have b27 := F27.binds (ps := ["self"]) fun _ _ _ _ _ _ us hl => match us, hl with | [_], _ => rfl
  have F28 := fun_mk (st := s_push) l28 c28 k28
  have b28 := F28.binds (ps := ["self", "word"]) fun _ _ _ _ _ _ us hl => match us, hl with | [_, _], _ => rfl
  have F29 := fun_mk (st := s_pop) l29 c29 k29
  have b29 := F29.binds (ps := ["self"]) fun _ _ _ _ _ _ us hl => match us, hl with | [_], _ => rfl
  have F30 := fun_mk (st := s_allows) l30 c30 k30
  have b30 := F30.binds (ps := ["self", "value"]) fun _ _ _ _ _ _ us hl => match us, hl with | [_, _], _ => rfl
  have F31 := fun_mk (st := s_lPool) l31 c31 k31
  have b31 := F31.binds (ps := ["_law_script"]) fun _ _ _ _ _ _ us hl => match us, hl with | [_], _ => rfl
  have F32 := fun_mk (st := s_lTake) l32 c32 k32
  have b32 := F32.binds (ps := ["_law_pool_here", "_law_many"]) fun _ _ _ _ _ _ us hl => match us, hl with | [_, _], _ => rfl
  have F33 := fun_mk (st := s_lWord) l33 c33 k33
  have b33 := F33.binds (ps := ["_law_pool_here", "_law_seen"]) fun _ _ _ _ _ _ us hl => match us, hl with | [_, _], _ => rfl
  have F34 := fun_mk (st := s_lRows) l34 c34 k34
  have b34 := F34.binds (ps := ["_law_pool_here", "_law_most", "_law_high", "_law_counts"]) fun _ _ _ _ _ _ us hl => match us, hl with | [_, _, _, _], _ => rfl
  have F35 := fun_mk (st := s_lIsInt) l35 c35 k35
  have b35 := F35.binds (ps := ["_law_actual"]) fun _ _ _ _ _ _ us hl => match us, hl with | [_], _ => rfl
  have F36 := fun_mk (st := s_lSame) l36 c36 k36
  have b36 := F36.binds (ps := ["_law_actual", "_law_due"]) fun _ _ _ _ _ _ us hl => match us, hl with | [_, _], _ => rfl
  have F37 := fun_mk (st := s_lTried) l37 c37 k37
  have b37 := F37.binds (ps := ["_law_reader", "_law_system", "_law_numbers"]) fun _ _ _ _ _ _ us hl => match us, hl with | [_, _, _], _ => rfl
  have F38 := fun_mk (st := s_lStage) l38 c38 k38
  have b38 := F38.binds (ps := ["_law_reader", "_law_system"]) fun _ _ _ _ _ _ us hl => match us, hl with | [_, _], _ => rfl
  have F39 := fun_mk (st := s_lStarts) l39 c39 k39
  have b39 := F39.binds (ps := ["_law_rows_here", "_law_number", "_law_known"]) fun _ _ _ _ _ _ us hl => match us, hl with | [_, _, _], _ => rfl
  have F40 := fun_mk (st := s_lBegins) l40 c40 k40
  have b40 := F40.binds (ps := ["_law_rows_here", "_law_reader"]) fun _ _ _ _ _ _ us hl => match us, hl with | [_, _], _ => rfl
  have F41 := fun_mk (st := s_law) l41 c41 k41
  have b41 := F41.binds (ps := ["_law_script"]) fun _ _ _ _ _ _ us hl => match us, hl with | [_], _ => rfl
  refine ⟨⟨f0, f1, f2, f3, f4, f5, f6, f7, f8, f9, f10, f11, f12, f13, f14, f15, f16, f17, f18, f19, f20, f21, f22, f23, f24, f25, f26, f27, f28, f29, f30, f31, f32, f33, f34, f35, f36, f37, f38, f39, f40, f41, PySem.W.fnOf "is_word" "is_word" (defArgs s_isWord) (defBody s_isWord) (defScope s_isWord) .none kV0 dc0 pm0 an0 cd0 ct0, PySem.W.fnOf "simple_fault" "simple_fault" (defArgs s_simpleFault) (defBody s_simpleFault) (defScope s_simpleFault) .none kV1 dc1 pm1 an1 cd1 ct1, PySem.W.fnOf "multiplier_fault" "multiplier_fault" (defArgs s_multFault) (defBody s_multFault) (defScope s_multFault) .none kV2 dc2 pm2 an2 cd2 ct2, PySem.W.fnOf "check_rows" "check_rows" (defArgs s_checkRows) (defBody s_checkRows) (defScope s_checkRows) .none kV3 dc3 pm3 an3 cd3 ct3, PySem.W.fnOf "check_words" "check_words" (defArgs s_checkWords) (defBody s_checkWords) (defScope s_checkWords) .none kV4 dc4 pm4 an4 cd4 ct4, PySem.W.fnOf "check_endless" "check_endless" (defArgs s_checkEndless) (defBody s_checkEndless) (defScope s_checkEndless) .none kV5 dc5 pm5 an5 cd5 ct5, PySem.W.fnOf "__init__" "System.__init__" (defArgs s_sysInit) (defBody s_sysInit) (defScope s_sysInit) .none kV6 dc6 pm6 an6 cd6 ct6, PySem.W.fnOf "words" "System.words" (defArgs s_sysWords) (defBody s_sysWords) (defScope s_sysWords) .none kV7 dc7 pm7 an7 cd7 ct7, PySem.W.fnOf "simple_value" "System.simple_value" (defArgs s_simpleValue) (defBody s_simpleValue) (defScope s_simpleValue) .none kV8 dc8 pm8 an8 cd8 ct8, PySem.W.fnOf "multiplier" "System.multiplier" (defArgs s_multiplier) (defBody s_multiplier) (defScope s_multiplier) .none kV9 dc9 pm9 an9 cd9 ct9, PySem.W.fnOf "endless" "System.endless" (defArgs s_endless) (defBody s_endless) (defScope s_endless) .none kV10 dc10 pm10 an10 cd10 ct10, PySem.W.fnOf "bounded_maximum" "System.bounded_maximum" (defArgs s_bmax) (defBody s_bmax) (defScope s_bmax) .none kV11 dc11 pm11 an11 cd11 ct11, PySem.W.fnOf "is_spoken" "is_spoken" (defArgs s_isSpoken) (defBody s_isSpoken) (defScope s_isSpoken) .none kV12 dc12 pm12 an12 cd12 ct12, PySem.W.fnOf "__init__" "Reader.__init__" (defArgs s_rdInit) (defBody s_rdInit) (defScope s_rdInit) .none kV13 dc13 pm13 an13 cd13 ct13, PySem.W.fnOf "words" "Reader.words" (defArgs s_rdWords) (defBody s_rdWords) (defScope s_rdWords) .none kV14 dc14 pm14 an14 cd14 ct14, PySem.W.fnOf "_counts" "Reader._counts" (defArgs s_counts) (defBody s_counts) (defScope s_counts) .none kV15 dc15 pm15 an15 cd15 ct15, PySem.W.fnOf "_rests" "Reader._rests" (defArgs s_rests) (defBody s_rests) (defScope s_rests) .none kV16 dc16 pm16 an16 cd16 ct16, PySem.W.fnOf "_derived" "Reader._derived" (defArgs s_derived) (defBody s_derived) (defScope s_derived) .none kV17 dc17 pm17 an17 cd17 ct17, PySem.W.fnOf "_add" "Reader._add" (defArgs s_add) (defBody s_add) (defScope s_add) .none kV18 dc18 pm18 an18 cd18 ct18, PySem.W.fnOf "_drop" "Reader._drop" (defArgs s_drop) (defBody s_drop) (defScope s_drop) .none kV19 dc19 pm19 an19 cd19 ct19, PySem.W.fnOf "_rest_at_most" "Reader._rest_at_most" (defArgs s_restAM) (defBody s_restAM) (defScope s_restAM) .none kV20 dc20 pm20 an20 cd20 ct20, PySem.W.fnOf "_begun" "Reader._begun" (defArgs s_begun) (defBody s_begun) (defScope s_begun) .none kV21 dc21 pm21 an21 cd21 ct21, PySem.W.fnOf "_first" "Reader._first" (defArgs s_first) (defBody s_first) (defScope s_first) .none kV22 dc22 pm22 an22 cd22 ct22, PySem.W.fnOf "_at_most" "Reader._at_most" (defArgs s_atMost) (defBody s_atMost) (defScope s_atMost) .none kV23 dc23 pm23 an23 cd23 ct23, PySem.W.fnOf "_greatest" "Reader._greatest" (defArgs s_greatest) (defBody s_greatest) (defScope s_greatest) .none kV24 dc24 pm24 an24 cd24 ct24, PySem.W.fnOf "_least" "Reader._least" (defArgs s_least) (defBody s_least) (defScope s_least) .none kV25 dc25 pm25 an25 cd25 ct25, PySem.W.fnOf "meanings" "Reader.meanings" (defArgs s_meanings) (defBody s_meanings) (defScope s_meanings) .none kV26 dc26 pm26 an26 cd26 ct26, PySem.W.fnOf "bounds" "Reader.bounds" (defArgs s_bounds) (defBody s_bounds) (defScope s_bounds) .none kV27 dc27 pm27 an27 cd27 ct27, PySem.W.fnOf "push" "Reader.push" (defArgs s_push) (defBody s_push) (defScope s_push) .none kV28 dc28 pm28 an28 cd28 ct28, PySem.W.fnOf "pop" "Reader.pop" (defArgs s_pop) (defBody s_pop) (defScope s_pop) .none kV29 dc29 pm29 an29 cd29 ct29, PySem.W.fnOf "allows" "Reader.allows" (defArgs s_allows) (defBody s_allows) (defScope s_allows) .none kV30 dc30 pm30 an30 cd30 ct30, PySem.W.fnOf "_law_pool" "_law_pool" (defArgs s_lPool) (defBody s_lPool) (defScope s_lPool) .none kV31 dc31 pm31 an31 cd31 ct31, PySem.W.fnOf "_law_take" "_law_take" (defArgs s_lTake) (defBody s_lTake) (defScope s_lTake) .none kV32 dc32 pm32 an32 cd32 ct32, PySem.W.fnOf "_law_word" "_law_word" (defArgs s_lWord) (defBody s_lWord) (defScope s_lWord) .none kV33 dc33 pm33 an33 cd33 ct33, PySem.W.fnOf "_law_rows" "_law_rows" (defArgs s_lRows) (defBody s_lRows) (defScope s_lRows) .none kV34 dc34 pm34 an34 cd34 ct34, PySem.W.fnOf "_law_is_integer" "_law_is_integer" (defArgs s_lIsInt) (defBody s_lIsInt) (defScope s_lIsInt) .none kV35 dc35 pm35 an35 cd35 ct35, PySem.W.fnOf "_law_same" "_law_same" (defArgs s_lSame) (defBody s_lSame) (defScope s_lSame) .none kV36 dc36 pm36 an36 cd36 ct36, PySem.W.fnOf "_law_tried" "_law_tried" (defArgs s_lTried) (defBody s_lTried) (defScope s_lTried) .none kV37 dc37 pm37 an37 cd37 ct37, PySem.W.fnOf "_law_stage" "_law_stage" (defArgs s_lStage) (defBody s_lStage) (defScope s_lStage) .none kV38 dc38 pm38 an38 cd38 ct38, PySem.W.fnOf "_law_starts" "_law_starts" (defArgs s_lStarts) (defBody s_lStarts) (defScope s_lStarts) .none kV39 dc39 pm39 an39 cd39 ct39, PySem.W.fnOf "_law_begins_so" "_law_begins_so" (defArgs s_lBegins) (defBody s_lBegins) (defScope s_lBegins) .none kV40 dc40 pm40 an40 cd40 ct40, PySem.W.fnOf "law" "law" (defArgs s_law) (defBody s_law) (defScope s_law) .none kV41 dc41 pm41 an41 cd41 ct41, cSys, cRd, cNP⟩, ?_, e.symm, fun s v => .of_eq rfl⟩
  exact ⟨F0,
    b0,
    PySem.W.mg_of X G a0,
    F1,
    b1,
    PySem.W.mg_of X G a1,
    F2,
    b2,
    PySem.W.mg_of X G a2,
    F3,
    b3,
    PySem.W.mg_of X G a3,
    F4,
    b4,
    PySem.W.mg_of X G a4,
    F5,
    b5,
    PySem.W.mg_of X G a5,
    F6,
    b6,
    ⟨a6, i6, k6⟩,
    F7,
    b7,
    ⟨a7, i7, k7⟩,
    F8,
    b8,
    ⟨a8, i8, k8⟩,
    F9,
    b9,
    ⟨a9, i9, k9⟩,
    F10,
    b10,
    ⟨a10, i10, k10⟩,
    F11,
    b11,
    ⟨a11, i11, k11⟩,
    F12,
    b12,
    PySem.W.mg_of X G a12,
    F13,
    b13,
    ⟨a13, i13, k13⟩,
    F14,
    b14,
    ⟨a14, i14, k14⟩,
    F15,
    b15,
    ⟨a15, i15, k15⟩,
    F16,
    b16,
    ⟨a16, i16, k16⟩,
    F17,
    b17,
    ⟨a17, i17, k17⟩,
    F18,
    b18,
    ⟨a18, i18, k18⟩,
    F19,
    b19,
    ⟨a19, i19, k19⟩,
    F20,
    b20,
    ⟨a20, i20, k20⟩,
    F21,
    b21,
    ⟨a21, i21, k21⟩,
    F22,
    b22,
    ⟨a22, i22, k22⟩,
    F23,
    b23,
    ⟨a23, i23, k23⟩,
    F24,
    b24,
    ⟨a24, i24, k24⟩,
    F25,
    b25,
    ⟨a25, i25, k25⟩,
    F26,
    b26,
    ⟨a26, i26, k26⟩,
    F27,
    b27,
    ⟨a27, i27, k27⟩,
    F28,
    b28,
    ⟨a28, i28, k28⟩,
    F29,
    b29,
    ⟨a29, i29, k29⟩,
    F30,
    b30,
    ⟨a30, i30, k30⟩,
    F31,
    b31,
    PySem.W.mg_of X G a31,
    F32,
    b32,
    PySem.W.mg_of X G a32,
    F33,
    b33,
    PySem.W.mg_of X G a33,
    F34,
    b34,
    PySem.W.mg_of X G a34,
    F35,
    b35,
    PySem.W.mg_of X G a35,
    F36,
    b36,
    PySem.W.mg_of X G a36,
    F37,
    b37,
    PySem.W.mg_of X G a37,
    F38,
    b38,
    PySem.W.mg_of X G a38,
    F39,
    b39,
    PySem.W.mg_of X G a39,
    F40,
    b40,
    PySem.W.mg_of X G a40,
    F41,
    b41,
    PySem.W.mg_of X G a41,
    ⟨pgcSys, hdcSys, pocSys, sacSys⟩,
    ⟨mkcSys, a6, i6, kccSys⟩,
    PySem.W.mg_of X G acSys,
    ncSyssimple,
    ncSysmultipliers,
    ncSys_values,
    ncSys_rows,
    ⟨pgcRd, hdcRd, pocRd, sacRd⟩,
    ⟨mkcRd, a13, i13, kccRd⟩,
    PySem.W.mg_of X G acRd,
    ncRd_system,
    ncRd_words,
    ncRd_values,
    PySem.W.mg_none_of X G zlen,
    PySem.W.mg_none_of X G zall,
    PySem.W.mg_none_of X G zenumerate,
    PySem.W.mg_none_of X G ztuple,
    PySem.W.mg_none_of X G zmax,
    PySem.W.mg_none_of X G zmin,
    PySem.W.mg_none_of X G zrange,
    PySem.W.mg_none_of X G zsorted,
    PySem.W.mg_none_of X G zisinstance,
    PySem.W.mg_none_of X G zint,
    PySem.W.mg_none_of X G zbool,
    PySem.W.mg_none_of X G zstr,
    PySem.W.mg_none_of X G zlist,
    PySem.W.mg_none_of X G zset,
    ⟨_, PySem.W.mg_of X G vMOST_LETTERS, _, rfl⟩,
    ⟨_, PySem.W.mg_of X G vMOST_SIMPLE, _, rfl⟩,
    ⟨_, PySem.W.mg_of X G vMOST_MULTIPLIERS, _, rfl⟩,
    ⟨_, PySem.W.mg_of X G vMOST_VALUE, _, rfl⟩,
    ⟨_, PySem.W.mg_of X G vMOST_WORDS, _, rfl⟩,
    ⟨_, PySem.W.mg_of X G vLETTERS, _, rfl⟩,
    PySem.W.mg_of X G aNP,
    xNP,
    kNP,
    bNP,
    tNP,
    exm_own bNP iNP tNP sNP⟩
end K30
set_option Elab.async false
set_option linter.all false
set_option maxRecDepth 100000
set_option maxHeartbeats 2000000
/-! K30Defs: how a System and a Reader stand in the heap. -/
namespace K30
open PySem L2
abbrev Rw := Row Str
abbrev SyS := Sy Str
/-- a multiplier's greatest count -/
def mostV : Option Int → V
  | none => .non
  | some c => .int c
/-- a multiplier's tuple -/
def rowV (r : Rw) : List V := [.str r.w, .int r.v, mostV r.most, .bl r.uns, .int r.rest]
def fS (ts tm tv tr : Addr) : List (Str × V) := [("simple", .ref ts), ("multipliers", .ref tm), ("_values", .ref tv), ("_rows", .ref tr)]
theorem fS_simple {a b c d : Addr} : (fS a b c d).lookup ("simple" : Str) = some (.ref a) := rfl
theorem fS_mult {a b c d : Addr} : (fS a b c d).lookup ("multipliers" : Str) = some (.ref b) := rfl
theorem fS_values {a b c d : Addr} : (fS a b c d).lookup ("_values" : Str) = some (.ref c) := rfl
theorem fS_rows {a b c d : Addr} : (fS a b c d).lookup ("_rows" : Str) = some (.ref d) := rfl
theorem fS_no {a b c d : Addr} {m : Str} (h : ¬ (m = "simple" ∨ m = "multipliers" ∨ m = "_values" ∨ m = "_rows")) : (fS a b c d).lookup m = none := by
  have h1 : (m == ("simple" : Str)) = false := beq_eq_false_iff_ne.mpr fun e => h (.inl e)
  have h2 : (m == ("multipliers" : Str)) = false := beq_eq_false_iff_ne.mpr fun e => h (.inr (.inl e))
  have h3 : (m == ("_values" : Str)) = false := beq_eq_false_iff_ne.mpr fun e => h (.inr (.inr (.inl e)))
  have h4 : (m == ("_rows" : Str)) = false := beq_eq_false_iff_ne.mpr fun e => h (.inr (.inr (.inr e)))
  simp only [fS, List.lookup_cons, h1, h2, h3, h4, List.lookup_nil]
def fR (s l v : Addr) : List (Str × V) := [("_system", .ref s), ("_words", .ref l), ("_values", .ref v)]
theorem fR_system {a b c : Addr} : (fR a b c).lookup ("_system" : Str) = some (.ref a) := rfl
theorem fR_words {a b c : Addr} : (fR a b c).lookup ("_words" : Str) = some (.ref b) := rfl
theorem fR_values {a b c : Addr} : (fR a b c).lookup ("_values" : Str) = some (.ref c) := rfl
theorem fR_no {a b c : Addr} {m : Str} (h : ¬ (m = "_system" ∨ m = "_words" ∨ m = "_values")) : (fR a b c).lookup m = none := by
  have h1 : (m == ("_system" : Str)) = false := beq_eq_false_iff_ne.mpr fun e => h (.inl e)
  have h2 : (m == ("_words" : Str)) = false := beq_eq_false_iff_ne.mpr fun e => h (.inr (.inl e))
  have h3 : (m == ("_values" : Str)) = false := beq_eq_false_iff_ne.mpr fun e => h (.inr (.inr e))
  simp only [fR, List.lookup_cons, h1, h2, h3, List.lookup_nil]

/-! ### what is kept -/
/-- all that was tracked is as it was, but at M -/
def Kp (M : List Addr) (H H' : Hp) : Prop := ∀ b o, H b = some o → b ∉ M → H' b = some o
theorem Kp.of_same {M : List Addr} {H H' : Hp} (h : Same H H') : Kp M H H' := fun b o e _ => h b o e
theorem Kp.trans {M : List Addr} {H H1 H2 : Hp} (h : Kp M H H1) (h' : Kp M H1 H2) : Kp M H H2 := fun b o e hb => h' b o (h b o e hb) hb
theorem Kp.refl (M : List Addr) (H : Hp) : Kp M H H := fun _ _ e _ => e
theorem kp_nil {H H' : Hp} (h : Kp [] H H') : Same H H' := fun b o e => h b o e (by simp)
/-- what is changed is a list or a dict with tuples as keys -/
def Ch (M : List Addr) (H : Hp) : Prop := ∀ b ∈ M, (∃ xs, H b = some (.lst xs)) ∨ ∃ kvs, H b = some (.dT kvs)
theorem Ch.not {M : List Addr} {H : Hp} (c : Ch M H) {b : Addr} {o : HO} (e : H b = some o) (h1 : ∀ xs, o ≠ .lst xs) (h2 : ∀ kvs, o ≠ .dT kvs) : b ∉ M := fun hb => by
  rcases c b hb with ⟨xs, z⟩ | ⟨kvs, z⟩
  · rw [e] at z
    exact h1 xs (Option.some.inj z)
  · rw [e] at z
    exact h2 kvs (Option.some.inj z)
/-- a new object -/
theorem same_upd {H : Hp} {p : Addr} (o : HO) (h : H p = none) : Same H (upd H p o) := fun b u q => by
  rw [upd_ne (ne_of_none q h)]
  exact q

/-! ### a System -/
structure SA where
  (p dx ts tm tv tr : Addr)
  (ps ms : List Addr)
  (kv kr : List (Key × V))
structure SysAt (C : Addr) (H : Hp) (s : SA) (S : SyS) : Prop where
  ob : H s.p = some (.ins C s.dx (fS s.ts s.tm s.tv s.tr))
  ts : H s.ts = some (.tup (s.ps.map V.ref))
  pl : s.ps.length = S.simple.length
  pe : ∀ (i : Nat) (q : Addr) (e : Str × Int), s.ps[i]? = some q → S.simple[i]? = some e → H q = some (.tup [.str e.1, .int e.2])
  tm : H s.tm = some (.tup (s.ms.map V.ref))
  ml : s.ms.length = S.mult.length
  me : ∀ (i : Nat) (q : Addr) (r : Rw), s.ms[i]? = some q → S.mult[i]? = some r → H q = some (.tup (rowV r))
  tv : H s.tv = some (.dK s.kv)
  vs : ∀ e ∈ S.simple, valV s.kv (Sum.inr e.1) = some (.int e.2)
  vn : ∀ w : Str, (∀ e ∈ S.simple, e.1 ≠ w) → valV s.kv (Sum.inr w) = none
  tr : H s.tr = some (.dK s.kr)
  rs : ∀ (i : Nat) (q : Addr) (r : Rw), s.ms[i]? = some q → S.mult[i]? = some r → valV s.kr (Sum.inr r.w) = some (.ref q)
  rn : ∀ w : Str, (∀ r ∈ S.mult, r.w ≠ w) → valV s.kr (Sum.inr w) = none
theorem SysAt.kp {C : Addr} {H H' : Hp} {s : SA} {S : SyS} {M : List Addr} (h : SysAt C H s S) (k : Kp M H H') (c : Ch M H) : SysAt C H' s S :=
  have z : ∀ {b : Addr} {o : HO}, H b = some o → (∀ xs, o ≠ .lst xs) → (∀ kvs, o ≠ .dT kvs) → H' b = some o := fun e h1 h2 => k _ _ e (c.not e h1 h2)
  { h with
    ob := z h.ob (fun _ e => nomatch e) fun _ e => nomatch e
    ts := z h.ts (fun _ e => nomatch e) fun _ e => nomatch e
    pe := fun i q e a b => z (h.pe i q e a b) (fun _ e => nomatch e) fun _ e => nomatch e
    tm := z h.tm (fun _ e => nomatch e) fun _ e => nomatch e
    me := fun i q e a b => z (h.me i q e a b) (fun _ e => nomatch e) fun _ e => nomatch e
    tv := z h.tv (fun _ e => nomatch e) fun _ e => nomatch e
    tr := z h.tr (fun _ e => nomatch e) fun _ e => nomatch e }
theorem SysAt.same {C : Addr} {H H' : Hp} {s : SA} {S : SyS} (h : SysAt C H s S) (k : Same H H') : SysAt C H' s S := h.kp (M := []) (.of_same k) fun _ z => nomatch z
theorem SysAt.row {C : Addr} {H : Hp} {s : SA} {S : SyS} (h : SysAt C H s S) {i : Nat} {x : V} (e : (s.ms.map V.ref)[i]? = some x) : ∃ q r, x = .ref q ∧ s.ms[i]? = some q ∧ S.mult[i]? = some r ∧ H q = some (.tup (rowV r)) := by
  rw [List.getElem?_map] at e
  cases e1 : s.ms[i]? with
  | none =>
    rw [e1] at e
    cases e
  | some q =>
    rw [e1] at e
    have hi : i < S.mult.length := h.ml ▸ (List.getElem?_eq_some_iff.mp e1).1
    exact ⟨q, S.mult[i], (Option.some.inj e).symm, rfl, List.getElem?_eq_getElem hi, h.me i q _ e1 (List.getElem?_eq_getElem hi)⟩
theorem SysAt.srow {C : Addr} {H : Hp} {s : SA} {S : SyS} (h : SysAt C H s S) {i : Nat} {x : V} (e : (s.ps.map V.ref)[i]? = some x) : ∃ q p, x = .ref q ∧ S.simple[i]? = some p ∧ H q = some (.tup [.str p.1, .int p.2]) := by
  rw [List.getElem?_map] at e
  cases e1 : s.ps[i]? with
  | none =>
    rw [e1] at e
    cases e
  | some q =>
    rw [e1] at e
    have hi : i < S.simple.length := h.pl ▸ (List.getElem?_eq_some_iff.mp e1).1
    exact ⟨q, S.simple[i], (Option.some.inj e).symm, List.getElem?_eq_getElem hi, h.pe i q _ e1 (List.getElem?_eq_getElem hi)⟩

/-! ### a Reader -/
/-- the words from i up to j -/
def seg (ws : List Str) (i j : Nat) : List Str := (ws.drop i).take (j - i)
/-- an ascending list of just the numbers that P says -/
def SortedOf (P : Int → Prop) (l : List Int) : Prop := l.Pairwise (· < ·) ∧ ∀ n, n ∈ l ↔ P n
structure RA where
  (p dx la va : Addr)
  s : SA
  av : List Addr
def key2 (i j : Nat) : List Key := [.inl i, .inl j]
/-- a Reader of the words ws at r, its lists for the pairs in D -/
structure RdAt (a : Ad) (H : Hp) (r : RA) (S : SyS) (ws : List Str) (D : Nat → Nat → Prop) : Prop where
  sys : SysAt a.cSys H r.s S
  ob : H r.p = some (.ins a.cRd r.dx (fR r.s.p r.la r.va))
  la : H r.la = some (.lst (ws.map V.str))
  va : ∃ kvs, H r.va = some (.dT kvs) ∧ (kvs.map (·.1)).Nodup ∧ (∀ k ∈ kvs.map (·.1), ∃ i j : Nat, k = key2 i j ∧ D i j) ∧
    ∀ i j : Nat, D i j → ∃ l ms, valV kvs (key2 i j) = some (.ref l) ∧ (l ≠ r.la ∧ l ∉ r.av) ∧ H l = some (.lst (ms.map V.int)) ∧ SortedOf (fun n => Der S n (seg ws i j)) ms
/-- all pairs of places -/
def Full (ws : List Str) (i j : Nat) : Prop := i < j ∧ j ≤ ws.length
theorem RdAt.kp {a : Ad} {H H' : Hp} {r : RA} {S : SyS} {ws : List Str} {D : Nat → Nat → Prop} {kd : Addr} {kvs0 : List (List Key × V)} (h : RdAt a H r S ws D) (k : Kp [kd] H H') (hk : H kd = some (.dT kvs0)) (hn : kd ≠ r.va) : RdAt a H' r S ws D := by
  have ch : Ch [kd] H := fun b hb => by
    rw [List.mem_singleton.mp hb]
    exact .inr ⟨_, hk⟩
  have z : ∀ {b : Addr} {o : HO}, H b = some o → b ≠ kd → H' b = some o := fun e hb => k _ _ e (by simpa using hb)
  obtain ⟨kvs, e1, e2, e3, e4⟩ := h.va
  refine ⟨h.sys.kp k ch, z h.ob (ne_of h.ob hk (fun e => nomatch e)), z h.la (ne_of h.la hk (fun e => nomatch e)), kvs, z e1 (Ne.symm hn), e2, e3, fun i j d => ?_⟩
  obtain ⟨l, ms, q1, q2, q3, q4⟩ := e4 i j d
  exact ⟨l, ms, q1, q2, z q3 (ne_of q3 hk (fun e => nomatch e)), q4⟩
theorem RdAt.same {a : Ad} {H H' : Hp} {r : RA} {S : SyS} {ws : List Str} {D : Nat → Nat → Prop} (h : RdAt a H r S ws D) (k : Same H H') : RdAt a H' r S ws D := by
  obtain ⟨kvs, e1, e2, e3, e4⟩ := h.va
  refine ⟨h.sys.same k, k _ _ h.ob, k _ _ h.la, kvs, k _ _ e1, e2, e3, fun i j d => ?_⟩
  obtain ⟨l, ms, q1, q2, q3, q4⟩ := e4 i j d
  exact ⟨l, ms, q1, q2, k _ _ q3, q4⟩
/-- another list is kept apart -/
theorem RdAt.avoid {a : Ad} {H : Hp} {r : RA} {S : SyS} {ws : List Str} {D : Nat → Nat → Prop} {b : Addr} (h : RdAt a H r S ws D) (hb : H b = none) : RdAt a H { r with av := b :: r.av } S ws D := by
  obtain ⟨kvs, e1, e2, e3, e4⟩ := h.va
  refine ⟨h.sys, h.ob, h.la, kvs, e1, e2, e3, fun i j d => ?_⟩
  obtain ⟨l, ms, q1, q2, q3, q4⟩ := e4 i j d
  refine ⟨l, ms, q1, ⟨q2.1, fun z => ?_⟩, q3, q4⟩
  rcases List.mem_cons.mp z with z | z
  · rw [z, hb] at q3
    cases q3
  · exact q2.2 z
theorem RdAt.less {a : Ad} {H : Hp} {r : RA} {S : SyS} {ws : List Str} {D : Nat → Nat → Prop} {b : Addr} (h : RdAt a H { r with av := b :: r.av } S ws D) : RdAt a H r S ws D := by
  obtain ⟨kvs, e1, e2, e3, e4⟩ := h.va
  refine ⟨h.sys, h.ob, h.la, kvs, e1, e2, e3, fun i j d => ?_⟩
  obtain ⟨l, ms, q1, q2, q3, q4⟩ := e4 i j d
  exact ⟨l, ms, q1, ⟨q2.1, fun z => q2.2 (List.mem_cons_of_mem _ z)⟩, q3, q4⟩
/-- a list that is kept apart is changed -/
theorem RdAt.lstKp {a : Ad} {H H' : Hp} {r : RA} {S : SyS} {ws : List Str} {D : Nat → Nat → Prop} {b : Addr} {xs : List V} (h : RdAt a H r S ws D) (k : Kp [b] H H') (hb : H b = some (.lst xs)) (h1 : b ≠ r.la) (h2 : b ∈ r.av) : RdAt a H' r S ws D := by
  have z : ∀ {c : Addr} {o : HO}, H c = some o → c ≠ b → H' c = some o := fun e hc => k _ _ e (by simpa using hc)
  obtain ⟨kvs, e1, e2, e3, e4⟩ := h.va
  refine ⟨h.sys.kp k (fun c hc => .inl ⟨xs, (List.mem_singleton.mp hc) ▸ hb⟩), z h.ob (ne_of h.ob hb (fun e => nomatch e)), z h.la h1.symm, kvs, z e1 (ne_of e1 hb (fun e => nomatch e)), e2, e3, fun i j d => ?_⟩
  obtain ⟨l, ms, q1, q2, q3, q4⟩ := e4 i j d
  exact ⟨l, ms, q1, q2, z q3 (fun e => q2.2 (e ▸ h2)), q4⟩
/-- a dict of its own keys is changed -/
theorem RdAt.dicKp {a : Ad} {H H' : Hp} {r : RA} {S : SyS} {ws : List Str} {D : Nat → Nat → Prop} {b : Addr} {kvs0 : List (Key × V)} (h : RdAt a H r S ws D) (k : Kp [b] H H') (hb : H b = some (.dK kvs0)) (h1 : b ≠ r.s.tv) (h2 : b ≠ r.s.tr) : RdAt a H' r S ws D := by
  have z : ∀ {c : Addr} {o : HO}, H c = some o → c ≠ b → H' c = some o := fun e hc => k _ _ e (by simpa using hc)
  have hs := h.sys
  obtain ⟨kvs, e1, e2, e3, e4⟩ := h.va
  refine ⟨{ hs with
    ob := z hs.ob (ne_of hs.ob hb (fun e => nomatch e))
    ts := z hs.ts (ne_of hs.ts hb (fun e => nomatch e))
    pe := fun i q e c d => z (hs.pe i q e c d) (ne_of (hs.pe i q e c d) hb (fun e => nomatch e))
    tm := z hs.tm (ne_of hs.tm hb (fun e => nomatch e))
    me := fun i q e c d => z (hs.me i q e c d) (ne_of (hs.me i q e c d) hb (fun e => nomatch e))
    tv := z hs.tv h1.symm
    tr := z hs.tr h2.symm }, z h.ob (ne_of h.ob hb (fun e => nomatch e)), z h.la (ne_of h.la hb (fun e => nomatch e)), kvs, z e1 (ne_of e1 hb (fun e => nomatch e)), e2, e3, fun i j d => ?_⟩
  obtain ⟨l, ms, q1, q2, q3, q4⟩ := e4 i j d
  exact ⟨l, ms, q1, q2, z q3 (ne_of q3 hb (fun e => nomatch e)), q4⟩
/-- what is known of the search, by start and limit -/
structure KnownOk (S : SyS) (ws : List Str) (kvs : List (List Key × V)) : Prop where
  nd : (kvs.map (·.1)).Nodup
  ok : ∀ k v, valV kvs k = some v → ∃ (i : Nat) (L x : Int), k = [.inl i, .inl L] ∧ v = .int x ∧ i ≤ ws.length ∧ 1 ≤ L ∧ L ≤ 1500000 ∧ IsMax (Poss S (ws.drop i)) L x
end K30
set_option Elab.async false
set_option linter.all false
set_option maxRecDepth 100000
set_option maxHeartbeats 4000000
/-! K30A: is_spoken and the methods of System that only read. -/
namespace K30
open PySem PySem.Spec PyProof.Rows L2 L2H
def mostOk : Option Int → Int → Bool
  | none, _ => true
  | some c, n => decide (n ≤ c)
def spokenB (r : Rw) (n : Int) : Bool := decide ((if r.uns = true then 2 else 1) ≤ n) && mostOk r.most n
theorem spokenB_iff {r : Rw} {n : Int} : spokenB r n = true ↔ Spoken r n := by
  unfold spokenB Spoken
  rw [Bool.and_eq_true, decide_eq_true_iff]
  constructor
  · rintro ⟨h1, h2⟩
    refine ⟨h1, fun c hc => ?_⟩
    rw [hc] at h2
    exact of_decide_eq_true h2
  · rintro ⟨h1, h2⟩
    refine ⟨h1, ?_⟩
    cases hm : r.most with
    | none => rfl
    | some c => exact decide_eq_true (h2 c hm)
def sp_isSpoken : Sp := fun vs H Q _ => ∃ (q : Addr) (r : Rw) (n : Int), vs = [.ref q, .int n] ∧ H q = some (.tup (rowV r)) ∧ Q (.bl (spokenB r n)) H
def sp_simpleValue (a : Ad) : Sp := fun vs H Q _ => ∃ (s : SA) (S : SyS) (w : Str), vs = [.ref s.p, .str w] ∧ SysAt a.cSys H s S ∧ (∀ e ∈ S.simple, e.1 = w → Q (.int e.2) H) ∧ ((∀ e ∈ S.simple, e.1 ≠ w) → Q .non H)
def sp_multiplier (a : Ad) : Sp := fun vs H Q _ => ∃ (s : SA) (S : SyS) (w : Str), vs = [.ref s.p, .str w] ∧ SysAt a.cSys H s S ∧
  (∀ (i : Nat) (q : Addr) (r : Rw), s.ms[i]? = some q → S.mult[i]? = some r → r.w = w → Q (.ref q) H) ∧ ((∀ r ∈ S.mult, r.w ≠ w) → Q .non H)
def sp_endless (a : Ad) : Sp := fun vs H Q _ => ∃ (s : SA) (S : SyS), vs = [.ref s.p] ∧ SysAt a.cSys H s S ∧
  (∀ (i : Nat) (q : Addr) (r : Rw), s.ms[i]? = some q → S.mult[i]? = some r → r.most = none → Q (.ref q) H) ∧ ((∀ r ∈ S.mult, r.most ≠ none) → Q .non H)
theorem take_snoc {α : Type} {l : List α} {i : Nat} {x : α} (h : l[i]? = some x) : l.take (i + 1) = l.take i ++ [x] := by
  rw [List.take_add_one, h]
  rfl
theorem tYes_if {σ : L2.St} {H : Hp} {A B : Hp → Prop} (h : A H) : tYes σ H (fun b H3 => if b = true then A H3 else B H3) := by
  show if true = true then A H else B H
  rw [if_pos rfl]
  exact h
theorem small_len {n : Nat} (h : n ≤ 100000) : n < sizeLine := Nat.lt_of_le_of_lt h (by decide)
def bms (rows : List Rw) : List Int := rows.filterMap fun r => r.most.map fun c => c * r.v + r.rest
/-- the bounded maximum -/
structure BMx (S : SyS) (m : Int) : Prop where
  mem : m ∈ S.simple.map (·.2) ++ bms S.mult ∨ (m = 0 ∧ S.simple.map (·.2) ++ bms S.mult = [])
  top : ∀ y ∈ S.simple.map (·.2) ++ bms S.mult, y ≤ m
  s : ∀ p ∈ S.simple, p.2 ≤ m
  r : ∀ r ∈ S.mult, ∀ c, r.most = some c → c * r.v + r.rest ≤ m
  lo : 0 ≤ m
  hi : m ≤ 44
theorem BMx.uniq {S : SyS} {m m' : Int} (h : BMx S m) (h' : BMx S m') : m = m' := by
  rcases h.mem with z | ⟨z, e⟩
  · rcases h'.mem with z' | ⟨z', e'⟩
    · have := h.top _ z'
      have := h'.top _ z
      omega
    · rw [e'] at z
      cases z
  · rcases h'.mem with z' | ⟨z', e'⟩
    · rw [e] at z'
      cases z'
    · omega
def sp_bmax (a : Ad) : Sp := fun vs H Q _ => ∃ (s : SA) (S : SyS), vs = [.ref s.p] ∧ SysAt a.cSys H s S ∧ S.Ok ∧ ∀ m H', Same H H' → BMx S m → Q (.int m) H'
/-- all words, the simple ones first -/
def allWords (S : SyS) : List Str := S.simple.map (·.1) ++ S.mult.map (·.w)
def sp_sysWords (a : Ad) : Sp := fun vs H Q _ => ∃ (s : SA) (S : SyS), vs = [.ref s.p] ∧ SysAt a.cSys H s S ∧ S.Ok ∧ ∀ p H', Same H H' → H' p = some (.tup ((allWords S).map V.str)) → Q (.ref p) H'
theorem allWords_at {S : SyS} {C : Addr} {H : Hp} {sa : SA} (hs : SysAt C H sa S) {i : Nat} {x : V} (h : (sa.ps.map V.ref ++ sa.ms.map V.ref)[i]? = some x) :
    ∃ q w ys, x = .ref q ∧ H q = some (.tup (.str w :: ys)) ∧ (allWords S)[i]? = some w := by
  by_cases hi : i < (sa.ps.map V.ref).length
  · rw [List.getElem?_append_left hi] at h
    obtain ⟨q, e, rfl, he, ho⟩ := hs.srow h
    refine ⟨q, e.1, _, rfl, ho, ?_⟩
    have hl : i < (S.simple.map (·.1)).length := by
      rw [List.length_map] at hi ⊢
      exact hs.pl ▸ hi
    rw [allWords, List.getElem?_append_left hl, List.getElem?_map, he]
    rfl
  · have hi' := Nat.le_of_not_lt hi
    rw [List.getElem?_append_right hi'] at h
    obtain ⟨q, r, rfl, _, he, ho⟩ := hs.row h
    refine ⟨q, r.w, _, rfl, ho, ?_⟩
    have hl : (S.simple.map (·.1)).length ≤ i := by
      rw [List.length_map] at hi' ⊢
      exact hs.pl ▸ hi'
    have e2 : (sa.ps.map V.ref).length = (S.simple.map (·.1)).length := by rw [List.length_map, List.length_map, hs.pl]
    rw [allWords, List.getElem?_append_right hl, List.getElem?_map, ← e2, he]
    rfl
theorem allWords_len {S : SyS} (ok : S.Ok) : (allWords S).length ≤ 8 := by
  rw [allWords, List.length_append, List.length_map, List.length_map]
  have := ok.ls
  have := ok.lm
  omega
theorem sysW_core {K : PySem.W.Frag} {C : Addr} {H H1 : Hp} {sa : SA} {S : SyS} {z : Addr} {tp D : Addr} {Qd : Hp → Prop} (hs : SysAt C H sa S) (ok : S.Ok) (hh : Same H H1) (h2 : H1 tp = some (.tup (sa.ps.map V.ref ++ sa.ms.map V.ref))) (hD : H1 D = none)
    (hd : ∀ H2, Same H1 H2 → H2 D = some (.lst ((allWords S).map V.str)) → Qd H2) :
    ∃ W : Nat → Nat → Hp → Prop, (∃ m, W 0 m (upd H1 D (.lst []))) ∧ ∀ i m H, W i m H →
      ((Itt K tp).stop i H ∧ Qd H) ∨ ((Itt K tp).go i H ∧ ∃ Nx : Hp → Prop, (∀ H', Nx H' → ∃ m', m' < m ∧ W (i + 1) m' H') ∧ ∀ x H', (Itt K tp).yld i H x H' → gName 1 x (wipe (L2.start [Str.ofString "self", Str.ofString "row"] [V.ref z]) [1]) H' fun σ2 H2 => wipe σ2 [1] = wipe (L2.start [Str.ofString "self", Str.ofString "row"] [V.ref z]) [1] ∧ tYes σ2 H2 fun b H3 =>
        if b = true then tOp (rIxT K) (tVar 1) (tC (V.int 0)) σ2 H3 fun y H4 => ∃ acc, H4 D = some (.lst acc) ∧ acc.length < sizeLine ∧ Nx (upd H4 D (.lst (acc ++ [y]))) else Nx H3) := by
  have ll : (sa.ps.map V.ref ++ sa.ms.map V.ref).length = (allWords S).length := by
    rw [allWords, List.length_append, List.length_append, List.length_map, List.length_map, List.length_map, List.length_map, hs.pl, hs.ml]
  refine lc_tup (K := K) (a := tp) (xs := sa.ps.map V.ref ++ sa.ms.map V.ref) (fun i H' => Same H1 H' ∧ H' D = some (.lst (((allWords S).take i).map V.str))) ⟨same_upd _ hD, upd_same⟩ (fun i H' _ h => SqT.of (h.1 _ _ h2)) ?_ ?_
  · rintro i x H' hx ⟨g1, g2⟩
    obtain ⟨q, w, ys, rfl, ho, hw⟩ := allWords_at (hs.same hh) hx
    refine ⟨rfl, tYes_if ?_⟩
    refine ⟨_, rfl, q, _, 0, .str w, rfl, rfl, SqT.of (g1 _ _ ho), atI_nat (j := 0) rfl, _, g2, ?_, ?_⟩
    · rw [List.length_map, List.length_take]
      have := allWords_len ok
      exact small_len (by omega)
    · refine ⟨fun b o z => ?_, ?_⟩
      · rw [upd_ne (ne_of_none z hD)]
        exact g1 b o z
      · rw [upd_same, take_snoc hw, List.map_append]
        rfl
  · rintro H2 ⟨g1, g2⟩
    rw [ll, List.take_length] at g2
    exact hd H2 g1 g2
section
variable {P : Program} {w : World} {K : PySem.W.Frag} {mg : Str → Option Value} {base : Heap} {a : Ad}
theorem g_isSpoken (T : Txt K mg a) : FnG P w K mg base 1 a.f_isSpoken a.d_isSpoken ["row", "count"] sp_isSpoken := by
  refine okG T.F_isSpoken sc_isSpoken (fun vs H Q E h => ?_) (fun c pn cdv A outer s H vs Q E hc hr h => ?_)
  · obtain ⟨q, r, n, rfl, _⟩ := h
    rfl
  · obtain ⟨q, r, n, rfl, hq, k⟩ := h
    refine ⟨_, (pss_cons (ps_asg (pv 0) (pgT K 5 hc (pgs_cons (pg_name (i := 2) sc_isSpoken.nd rfl (.inl rfl)) (pgs_cons (pg_name (i := 2) sc_isSpoken.nd rfl (.inl rfl)) (pgs_cons (pg_name (i := 3) sc_isSpoken.nd rfl (.inl rfl)) (pgs_cons (pg_name (i := 4) sc_isSpoken.nd rfl (.inl rfl)) (pgs_cons (pg_name (i := 2) sc_isSpoken.nd rfl (.inl rfl)) pgs_nil)))))))
      (pss_one (ps_ret (pe_and (pe_cmpR op_ge (pv 1) (pe_ifExp (pt_val (pv 4)) pe_int pe_int) (nomark _)) (pe_one (pe_or (pe_cmpR op_isN (pv 3) pe_non (nomark _)) (pe_one (pe_cmpR op_le (pv 1) (pv 3) (nomark _))))))))), ?_⟩
    obtain ⟨rw', rv, most, uns, rest⟩ := r
    refine ⟨_, rfl, q, _, rfl, SqT.of hq, rfl, _, _, rfl, _, _, rfl, _, _, rfl, _, _, rfl, _, _, rfl, rfl, ?_⟩
    -- count >= (2 if is_unsaid else 1) and (most is None or count <= most)
    refine ⟨_, rfl, _, rfl, _, rfl, ?_⟩
    have fin_ : ∀ lo : Int, (if uns = true then (2 : Int) else 1) = lo → ∃ i j : Int, V.int n = V.int i ∧ V.int lo = V.int j ∧ ∃ c : Bool, V.bl (decide (j ≤ i)) = V.bl c ∧
        (if c = true then (∃ v, [some (V.ref q), some (V.int n), some (V.int rest), some (mostV most), some (V.bl uns)][3]? = some (some v) ∧ (V.non = V.non ∧ ∃ c' : Bool, V.bl (decide (v = V.non)) = V.bl c' ∧
          (if c' = true then Q (.bl true) H else ∃ v1, [some (V.ref q), some (V.int n), some (V.int rest), some (mostV most), some (V.bl uns)][1]? = some (some v1) ∧ ∃ v2, [some (V.ref q), some (V.int n), some (V.int rest), some (mostV most), some (V.bl uns)][3]? = some (some v2) ∧
            ∃ i2 j2 : Int, v1 = V.int i2 ∧ v2 = V.int j2 ∧ Q (.bl (decide (i2 ≤ j2))) H))) else Q (.bl false) H) := fun lo hlo => by
      refine ⟨_, _, rfl, rfl, _, rfl, ?_⟩
      have es : spokenB ⟨rw', rv, most, uns, rest⟩ n = (decide (lo ≤ n) && mostOk most n) := by
        show (decide ((if uns = true then (2 : Int) else 1) ≤ n) && _) = _
        rw [hlo]
      rw [es] at k
      by_cases h1 : lo ≤ n
      · rw [decide_eq_true h1] at k ⊢
        refine iteT ⟨_, rfl, rfl, ?_⟩
        cases most with
        | none => exact ⟨_, rfl, iteT k⟩
        | some c => exact ⟨_, rfl, iteF ⟨_, rfl, _, rfl, _, _, rfl, rfl, k⟩⟩
      · rw [decide_eq_false h1] at k ⊢
        exact iteF k
    cases uns with
    | true => exact iteT (fin_ 2 rfl)
    | false => exact iteF (fin_ 1 rfl)
theorem g_simpleValue (T : Txt K mg a) : FnG P w K mg base 1 a.f_simpleValue a.d_simpleValue ["self", "word"] (sp_simpleValue a) := by
  refine okG T.F_simpleValue sc_simpleValue (fun vs H Q E h => ?_) (fun c pn cdv A outer s H vs Q E hc hr h => ?_)
  · obtain ⟨s, S, x, rfl, _⟩ := h
    rfl
  · obtain ⟨sa, S, x, rfl, hs, k1, k2⟩ := h
    refine ⟨_, (pss_one (ps_ret (pe_dget1 (huH hr) (fldK K (pv 0) rfl) (pv 1) ⟨rfl, rfl, rfl, rfl⟩))), ?_⟩
    refine ⟨_, rfl, sa.p, a.cSys, sa.dx, _, _, rfl, hs.ob, T.cl_cSys, T.n_cSys__values, fS_values, sa.tv, rfl, .inl ⟨_, .inl hs.tv⟩, _, rfl, _, DGet.k (k := Sum.inr x) hs.tv, ?_⟩
    by_cases h : ∃ e ∈ S.simple, e.1 = x
    · obtain ⟨e, he, rfl⟩ := h
      rw [hs.vs e he]
      exact k1 e he rfl
    · rw [hs.vn x fun e he z => h ⟨e, he, z⟩]
      exact k2 fun e he z => h ⟨e, he, z⟩
theorem g_multiplier (T : Txt K mg a) : FnG P w K mg base 1 a.f_multiplier a.d_multiplier ["self", "word"] (sp_multiplier a) := by
  refine okG T.F_multiplier sc_multiplier (fun vs H Q E h => ?_) (fun c pn cdv A outer s H vs Q E hc hr h => ?_)
  · obtain ⟨s, S, x, rfl, _⟩ := h
    rfl
  · obtain ⟨sa, S, x, rfl, hs, k1, k2⟩ := h
    refine ⟨_, (pss_one (ps_ret (pe_dget1 (huH hr) (fldK K (pv 0) rfl) (pv 1) ⟨rfl, rfl, rfl, rfl⟩))), ?_⟩
    refine ⟨_, rfl, sa.p, a.cSys, sa.dx, _, _, rfl, hs.ob, T.cl_cSys, T.n_cSys__rows, fS_rows, sa.tr, rfl, .inl ⟨_, .inl hs.tr⟩, _, rfl, _, DGet.k (k := Sum.inr x) hs.tr, ?_⟩
    by_cases h : ∃ r ∈ S.mult, r.w = x
    · obtain ⟨r, hr', rfl⟩ := h
      obtain ⟨i, hi, rfl⟩ := List.mem_iff_getElem.mp hr'
      have hq : sa.ms[i]? = some (sa.ms[i]'(by rw [hs.ml]; exact hi)) := List.getElem?_eq_getElem _
      have hr2 : S.mult[i]? = some S.mult[i] := List.getElem?_eq_getElem hi
      rw [hs.rs i _ _ hq hr2]
      exact k1 i _ _ hq hr2 rfl
    · rw [hs.rn x fun e he z => h ⟨e, he, z⟩]
      exact k2 fun e he z => h ⟨e, he, z⟩
theorem g_endless (T : Txt K mg a) : FnG P w K mg base 1 a.f_endless a.d_endless ["self"] (sp_endless a) := by
  refine okG T.F_endless sc_endless (fun vs H Q E h => ?_) (fun c pn cdv A outer s H vs Q E hc hr h => ?_)
  · obtain ⟨s, S, rfl, _⟩ := h
    rfl
  · obtain ⟨sa, S, rfl, hs, k1, k2⟩ := h
    refine ⟨_, (pss_cons (psg_for PassesOwn.never hc (pigT K (fldK K (pv 0) rfl)) (pg_name (i := 1) sc_endless.nd rfl (.inl rfl))
      (pss_one (ps_if (pt_cmpR op_isN (pe_ix (ixT K) (pv 1) pe_int (fun _ _ => rfl)) pe_non (nomark _)) (pss_one (ps_ret (pv 1))) pss_nil)))
      (pss_one (ps_ret pe_non))), ?_⟩
    refine ⟨_, rfl, sa.p, a.cSys, sa.dx, _, _, rfl, hs.ob, T.cl_cSys, T.n_cSys_multipliers, fS_mult, sa.tm, rfl, ⟨_, SqT.of hs.tm⟩, for_tup (K := K) (a := sa.tm) (xs := sa.ms.map V.ref)
      (fun i σ H' => ∃ v : Option V, σ = [some (.ref sa.p), v] ∧ H' = H ∧ ∀ (j : Nat) (r : Rw), j < i → S.mult[j]? = some r → r.most ≠ none) ⟨none, rfl, rfl, fun j r h => absurd h (Nat.not_lt_zero _)⟩ (fun i σ H' _ ⟨_, _, e, _⟩ => by rw [e]; exact SqT.of hs.tm) ?_ ?_⟩
    · rintro i x σ H' hx ⟨v, rfl, rfl, hn⟩
      obtain ⟨q, r, rfl, hq, hr', ho⟩ := hs.row hx
      refine ⟨_, rfl, q, _, 2, mostV r.most, rfl, rfl, SqT.of ho, rfl, rfl, _, rfl, ?_⟩
      cases hm : r.most with
      | none => exact iteT ⟨_, rfl, k1 i q r hq hr' hm⟩
      | some c =>
        refine iteF ⟨_, rfl, rfl, fun j r' hj hj' => ?_⟩
        by_cases e : j = i
        · subst e
          rw [hr'] at hj'
          cases hj'
          rw [hm]
          exact fun z => nomatch z
        · exact hn j r' (by omega) hj'
    · rintro σ H' ⟨v, rfl, rfl, hn⟩
      refine k2 fun r hr' => ?_
      obtain ⟨i, hi, rfl⟩ := List.mem_iff_getElem.mp hr'
      refine hn i _ ?_ (List.getElem?_eq_getElem hi)
      rw [List.length_map, hs.ml]
      exact hi
theorem g_bmax (T : Txt K mg a) : FnG P w K mg base 1 a.f_bmax a.d_bmax ["self"] (sp_bmax a) := by
  refine okG T.F_bmax sc_bmax (fun vs H Q E h => ?_) (fun c pn cdv A outer s H vs Q E hc hr h => ?_)
  · obtain ⟨s, S, rfl, _⟩ := h
    rfl
  · obtain ⟨sa, S, rfl, hs, ok, k⟩ := h
    refine ⟨_, (pss_cons (psg_setLc (i := 1) (own := [("row", 2)]) hc sc_bmax.nd rfl rfl (sw_true rfl rfl rfl (by decide +kernel)) (pigT K (fldK K (pv 0) rfl)) (blkOk_by (own := [("row", 2)]) (N := ["self", "found", "row"]) (sc := defScope s_bmax) (by decide +kernel)) (fun _ _ _ _ _ => (pg_name (i := 2) sc_bmax.nd rfl (.inl rfl))) (fun _ _ _ _ _ => pts_nil) (fun _ _ _ _ _ => (pe_ix (ixT K) (pv 2) pe_int (fun _ _ => rfl))))
      (pss_cons (ps_expr (pe_bm PySem.F.plainAttrs_list PySem.F.slot_list_extend PySem.F.type_list_extend mt_extend (pv 1) (pa_cons (peg_lc (own := [("row", 2)]) hc sc_bmax.nd (pigT K (fldK K (pv 0) rfl)) (blkOk_by (own := [("row", 2)]) (N := ["self", "found", "row"]) (sc := defScope s_bmax) (by decide +kernel)) (fun _ _ _ _ _ => (pg_name (i := 2) sc_bmax.nd rfl (.inl rfl))) (fun _ _ _ _ _ => (pts_one (pt_cmpR op_notN (pe_ix (ixT K) (pv 2) pe_int (fun _ _ => rfl)) pe_non (nomark _)))) (fun _ _ _ _ _ => (pe_op op_add (pe_op op_mul (pe_ix (ixT K) (pv 2) pe_int (fun _ _ => rfl)) (pe_ix (ixT K) (pv 2) pe_int (fun _ _ => rfl))) (pe_ix (ixT K) (pv 2) pe_int (fun _ _ => rfl))))) pa_nil)))
      (pss_one (ps_ret (pe_callBK (cg_maxD hc) (by rfl) T.z_max (by decide +kernel) (pa_cons (pv 1) pa_nil) (pk_cons pe_int pk_nil)))))), ?_⟩
    -- found = [row[1] for row in self.simple]
    refine ⟨_, rfl, sa.p, a.cSys, sa.dx, _, _, rfl, hs.ob, T.cl_cSys, T.n_cSys_simple, fS_simple, sa.ts, rfl, ⟨_, SqT.of hs.ts⟩, fun D hD => lc_tup (K := K) (a := sa.ts) (xs := sa.ps.map V.ref)
      (fun i H' => Same H H' ∧ H' D = some (.lst (((S.simple.take i).map (·.2)).map V.int))) ⟨same_upd _ hD, upd_same⟩ (fun i H' _ h => SqT.of (h.1 _ _ hs.ts)) ?_ ?_⟩
    · rintro i x H' hx ⟨g1, g2⟩
      obtain ⟨q, e, rfl, he, ho⟩ := hs.srow hx
      refine ⟨rfl, tYes_if ?_⟩
      refine ⟨_, rfl, q, _, 1, _, rfl, rfl, SqT.of (g1 _ _ ho), rfl, _, g2, ?_, ?_⟩
      · rw [List.length_map, List.length_map, List.length_take]
        have := ok.ls
        exact small_len (by omega)
      · refine ⟨fun b o z => ?_, ?_⟩
        · rw [upd_ne (ne_of_none z hD)]
          exact g1 b o z
        · rw [upd_same, take_snoc he, List.map_append, List.map_append]
          rfl
    · rintro H1 ⟨g1, g2⟩
      rw [List.length_map, hs.pl, List.take_length] at g2
      have hs1 := hs.same g1
      -- found.extend([row[2] * row[1] + row[4] for row in self.multipliers if row[2] is not None])
      refine ⟨_, rfl, .inl ⟨rfl, _, SqL.of g2⟩, _, rfl, sa.p, a.cSys, sa.dx, _, _, rfl, hs1.ob, T.cl_cSys, T.n_cSys_multipliers, fS_mult, sa.tm, rfl, ⟨_, SqT.of hs1.tm⟩, fun D2 hD2 => lc_tup (K := K) (a := sa.tm) (xs := sa.ms.map V.ref)
        (fun i H' => Same H1 H' ∧ H' D2 = some (.lst ((bms (S.mult.take i)).map V.int))) ⟨same_upd _ hD2, upd_same⟩ (fun i H' _ h => SqT.of (h.1 _ _ hs1.tm)) ?_ ?_⟩
      · rintro i x H' hx ⟨g3, g4⟩
        obtain ⟨q, r, rfl, hq, hr', ho⟩ := hs1.row hx
        have ho' := g3 _ _ ho
        have hrm : r ∈ S.mult := List.mem_of_getElem? hr'
        have bs : bms (S.mult.take (i + 1)) = bms (S.mult.take i) ++ (match r.most with | none => [] | some c => [c * r.v + r.rest]) := by
          rw [take_snoc hr']
          unfold bms
          rw [List.filterMap_append]
          congr 1
          cases hm : r.most <;> simp [hm]
        refine ⟨rfl, _, rfl, q, _, 2, mostV r.most, rfl, rfl, SqT.of ho', rfl, rfl, _, rfl, ?_⟩
        cases hm : r.most with
        | none =>
          refine iteF ⟨g3, ?_⟩
          rw [bs, hm, List.append_nil]
          exact g4
        | some c =>
          have hc4 := ok.mc r hrm c hm
          refine iteT ⟨_, rfl, q, _, 2, .int c, rfl, rfl, SqT.of ho', by show some (mostV r.most) = _; rw [hm]; rfl, _, rfl, q, _, 1, _, rfl, rfl, SqT.of ho', rfl, _, _, rfl, rfl, .inl ⟨by omega, by omega⟩, _, rfl, q, _, 4, _, rfl, rfl, SqT.of ho', rfl, _, _, rfl, rfl, _, g4, ?_, ?_⟩
          · rw [List.length_map]
            have h1 : (bms (S.mult.take i)).length ≤ (S.mult.take i).length := List.length_filterMap_le _ _
            rw [List.length_take] at h1
            have := ok.lm
            exact small_len (by omega)
          · refine ⟨fun b o z => ?_, ?_⟩
            · rw [upd_ne (ne_of_none z hD2)]
              exact g3 b o z
            · rw [upd_same, bs, hm, List.map_append]
              rfl
      · rintro H2 ⟨g3, g4⟩
        rw [List.length_map, hs1.ml, List.take_length] at g4
        have g5 := g3 _ _ g2
        have nDD : D ≠ D2 := ne_of_none g2 hD2
        refine ⟨D, D2, _, _, rfl, rfl, g5, g4, ?_, ?_⟩
        · rw [List.length_map, List.length_map, List.length_map]
          have h1 : (bms S.mult).length ≤ S.mult.length := List.length_filterMap_le _ _
          have := ok.lm
          have := ok.ls
          exact Nat.le_of_lt (small_len (by omega))
        · have e1 : (List.map V.int (S.simple.map (·.2)) ++ List.map V.int (bms S.mult)) = (S.simple.map (·.2) ++ bms S.mult).map V.int := by rw [List.map_append]
          have s2 : Same H (upd H2 D (.lst (List.map V.int (S.simple.map (·.2)) ++ List.map V.int (bms S.mult)))) := fun b o z => by
            rw [upd_ne (ne_of_none z hD)]
            exact g3 _ _ (g1 _ _ z)
          have in1 : ∀ p ∈ S.simple, p.2 ∈ S.simple.map (·.2) ++ bms S.mult := fun p hp => List.mem_append_left _ (List.mem_map.mpr ⟨p, hp, rfl⟩)
          have in2 : ∀ r ∈ S.mult, ∀ c, r.most = some c → c * r.v + r.rest ∈ S.simple.map (·.2) ++ bms S.mult := fun r hr' c hm => List.mem_append_right _ (List.mem_filterMap.mpr ⟨r, hr', by rw [hm]; rfl⟩)
          have lo : ∀ y ∈ S.simple.map (·.2) ++ bms S.mult, 0 ≤ y ∧ y ≤ 44 := fun y hy => by
            rcases List.mem_append.mp hy with z | z
            · obtain ⟨p, hp, rfl⟩ := List.mem_map.mp z
              have := ok.sv p hp
              omega
            · obtain ⟨r, hr', z⟩ := List.mem_filterMap.mp z
              cases hm : r.most with
              | none =>
                rw [hm] at z
                cases z
              | some c =>
                rw [hm] at z
                have z2 : c * r.v + r.rest = y := Option.some.inj z
                have h1 := ok.mc r hr' c hm
                have h2 := ok.mv r hr'
                have h3 := ok.mr r hr'
                have h4 : c * r.v ≤ 4 * r.v := Int.mul_le_mul_of_nonneg_right h1.2 (by omega)
                have h5 : 0 ≤ c * r.v := Int.mul_nonneg (by omega) (by omega)
                omega
          refine ⟨_, rfl, D, S.simple.map (·.2) ++ bms S.mult, _, rfl, rfl, SqL.of (by rw [← e1]; exact upd_same), fun h0 => ?_, fun m hm hle => ?_⟩
          · refine k 0 _ s2 ⟨.inr ⟨rfl, h0⟩, (fun y hy => by rw [h0] at hy; cases hy), fun p hp => ?_, fun r hr' c hm => ?_, Int.le_refl _, by decide⟩
            · have := in1 p hp
              rw [h0] at this
              cases this
            · have := in2 r hr' c hm
              rw [h0] at this
              cases this
          · exact k m _ s2 ⟨.inl hm, hle, fun p hp => hle _ (in1 p hp), fun r hr' c hc' => hle _ (in2 r hr' c hc'), (lo m hm).1, (lo m hm).2⟩
theorem g_sysWords (T : Txt K mg a) : FnG P w K mg base 1 a.f_sysWords a.d_sysWords ["self"] (sp_sysWords a) := by
  refine okG T.F_sysWords sc_sysWords (fun vs H Q E h => ?_) (fun c pn cdv A outer s H vs Q E hc hr h => ?_)
  · obtain ⟨s, S, rfl, _⟩ := h
    rfl
  · obtain ⟨sa, S, rfl, hs, ok, k⟩ := h
    refine ⟨_, (pss_one (ps_ret (pe_callTy (tupOf K) (by rfl) T.z_tuple (by decide +kernel) (pa_cons (peg_lc (own := [("row", 1)]) hc sc_sysWords.nd (pigT K (pe_op op_catA (fldK K (pv 0) rfl) (fldK K (pv 0) rfl))) (blkOk_by (own := [("row", 1)]) (N := ["self", "row"]) (sc := defScope s_sysWords) (by decide +kernel)) (fun _ _ _ _ _ => (pg_name (i := 1) sc_sysWords.nd rfl (.inl rfl))) (fun _ _ _ _ _ => pts_nil) (fun _ _ _ _ _ => (pe_ix (ixT K) (pv 1) pe_int (fun _ _ => rfl)))) pa_nil)))), ?_⟩
    refine ⟨_, rfl, sa.p, a.cSys, sa.dx, _, _, rfl, hs.ob, T.cl_cSys, T.n_cSys_simple, fS_simple, _, rfl, sa.p, a.cSys, sa.dx, _, _, rfl, hs.ob, T.cl_cSys, T.n_cSys_multipliers, fS_mult, ?_⟩
    refine ⟨sa.ts, sa.tm, _, _, rfl, rfl, SqT.of hs.ts, SqT.of hs.tm, ?_, fun h0 => ?_, fun _ h0 => ?_, fun _ _ tp htp => ?_⟩
    · rw [List.length_map, List.length_map, hs.pl, hs.ml]
      have := ok.ls
      have := ok.lm
      exact Nat.le_of_lt (small_len (by omega))
    all_goals first
      | exact ⟨sa.tm, rfl, ⟨_, SqT.of hs.tm⟩, fun D hD => sysW_core hs ok (.refl H) (by rw [h0]; exact hs.tm) hD fun H2 g1 g2 => ⟨D, _, rfl, .inl ⟨SqL.of g2, fun l hl => k l _ (g1.trans (same_upd _ hl)) upd_same⟩⟩⟩
      | exact ⟨sa.ts, rfl, ⟨_, SqT.of hs.ts⟩, fun D hD => sysW_core hs ok (.refl H) (by rw [h0, List.append_nil]; exact hs.ts) hD fun H2 g1 g2 => ⟨D, _, rfl, .inl ⟨SqL.of g2, fun l hl => k l _ (g1.trans (same_upd _ hl)) upd_same⟩⟩⟩
      | exact ⟨tp, rfl, ⟨_, SqT.of upd_same⟩, fun D hD => sysW_core hs ok (same_upd _ htp) upd_same hD fun H2 g1 g2 => ⟨D, _, rfl, .inl ⟨SqL.of g2, fun l hl => k l _ (((same_upd _ htp).trans g1).trans (same_upd _ hl)) upd_same⟩⟩⟩
end
end K30
set_option Elab.async false
set_option linter.all false
set_option maxRecDepth 100000
set_option maxHeartbeats 4000000
/-! K30B: the methods of Reader that read. -/
namespace K30
open PySem PySem.Spec PyProof.Rows L2 L2H
/-! ### lists of numbers -/
theorem dint_t {i j : Int} (h : i = j) : decide (V.int i = V.int j) = true := decide_eq_true (congrArg V.int h)
theorem dint_f {i j : Int} (h : i ≠ j) : decide (V.int i = V.int j) = false := decide_eq_false fun e => h (by injection e)
theorem z0 : 0 ≤ sizeLine := by decide
theorem z1 : 1 ≤ sizeLine := by decide
theorem z2 : 2 ≤ sizeLine := by decide
theorem z3 : 3 ≤ sizeLine := by decide
theorem asc_len {B : Int} : ∀ (l : List Int) (lo : Int), l.Pairwise (· < ·) → (∀ n ∈ l, lo < n ∧ n ≤ B) → (l.length : Int) ≤ max (B - lo) 0
  | [], lo, _, _ => by
    show (0 : Int) ≤ _
    omega
  | x :: l, lo, hp, hb => by
    obtain ⟨h1, h2⟩ := List.pairwise_cons.mp hp
    have hx := hb x List.mem_cons_self
    have ih := asc_len l x h2 fun n hn => ⟨h1 n hn, (hb n (List.mem_cons_of_mem _ hn)).2⟩
    rw [List.length_cons]
    omega
theorem SortedOf.len {Pr : Int → Prop} {l : List Int} {B : Nat} (h : SortedOf Pr l) (hb : ∀ n, Pr n → 1 ≤ n ∧ n ≤ (B : Int)) : l.length ≤ B := by
  have := asc_len l 0 h.1 fun n hn => by
    have := hb n ((h.2 n).mp hn)
    exact ⟨by omega, this.2⟩
  omega
theorem SortedOf.uniq {Pr : Int → Prop} : ∀ {l m : List Int}, SortedOf Pr l → SortedOf Pr m → l = m := fun {l m} h h' => by
  have key : ∀ (l m : List Int), l.Pairwise (· < ·) → m.Pairwise (· < ·) → (∀ n, n ∈ l ↔ n ∈ m) → l = m := by
    intro l
    induction l with
    | nil =>
      intro m _ _ e
      cases m with
      | nil => rfl
      | cons y m => exact absurd ((e y).mpr List.mem_cons_self) (by simp)
    | cons x l ih =>
      intro m hl hm e
      cases m with
      | nil => exact absurd ((e x).mp List.mem_cons_self) (by simp)
      | cons y m =>
        obtain ⟨l1, l2⟩ := List.pairwise_cons.mp hl
        obtain ⟨m1, m2⟩ := List.pairwise_cons.mp hm
        have exy : x = y := by
          rcases List.mem_cons.mp ((e x).mp List.mem_cons_self) with z | z
          · exact z
          · rcases List.mem_cons.mp ((e y).mpr List.mem_cons_self) with z2 | z2
            · exact z2.symm
            · have := m1 x z
              have := l1 y z2
              omega
        subst exy
        congr 1
        refine ih m l2 m2 fun n => ⟨fun hn => ?_, fun hn => ?_⟩
        · rcases List.mem_cons.mp ((e n).mp (List.mem_cons_of_mem _ hn)) with z | z
          · have := l1 n hn
            omega
          · exact z
        · rcases List.mem_cons.mp ((e n).mpr (List.mem_cons_of_mem _ hn)) with z | z
          · have := m1 n hn
            omega
          · exact z
  exact key l m h.1 h'.1 fun n => (h.2 n).trans (h'.2 n).symm
theorem ten_le {n : Nat} (h : n ≤ 6) : (10 : Int) ^ n ≤ 1000000 := by
  have : n = 0 ∨ n = 1 ∨ n = 2 ∨ n = 3 ∨ n = 4 ∨ n = 5 ∨ n = 6 := by omega
  rcases this with rfl | rfl | rfl | rfl | rfl | rfl | rfl <;> decide
theorem Der.small {S : SyS} (ok : S.Ok) {n : Int} {p : List Str} (h : Der S n p) (hl : p.length ≤ 6) : 1 ≤ n ∧ n ≤ 1000000 := ⟨(h.pos ok).1, Int.le_trans (h.bd ok) (ten_le hl)⟩
theorem seg_len {ws : List Str} {i j : Nat} (h : ws.length ≤ 6) : (seg ws i j).length ≤ 6 := by
  unfold seg
  rw [List.length_take, List.length_drop]
  omega
theorem seg_self (ws : List Str) (i : Nat) : seg ws i i = [] := by
  unfold seg
  rw [Nat.sub_self]
  rfl
theorem seg_all (ws : List Str) : seg ws 0 ws.length = ws := by
  unfold seg
  rw [List.drop_zero, Nat.sub_zero, List.take_length]
theorem seg_ne {ws : List Str} {i j : Nat} (h : i < j) (hj : j ≤ ws.length) : seg ws i j ≠ [] := fun e => by
  have : (seg ws i j).length = 0 := by rw [e]; rfl
  unfold seg at this
  rw [List.length_take, List.length_drop] at this
  omega
theorem der_len {S : SyS} (ok : S.Ok) {ws : List Str} {i j : Nat} {ms : List Int} (hw : ws.length ≤ 6) (h : SortedOf (fun n => Der S n (seg ws i j)) ms) : ms.length ≤ 1000000 :=
  SortedOf.len (B := 1000000) h fun n d => d.small ok (seg_len hw)
theorem mil_line {n : Nat} (h : n ≤ 1000000) : n < sizeLine := Nat.lt_of_le_of_lt h (by decide)
theorem RdAt.get {a : Ad} {H : Hp} {r : RA} {S : SyS} {ws : List Str} {D : Nat → Nat → Prop} (h : RdAt a H r S ws D) {i j : Nat} (d : D i j) :
    ∃ kvs l ms, H r.va = some (.dT kvs) ∧ valV kvs (key2 i j) = some (.ref l) ∧ H l = some (.lst (ms.map V.int)) ∧ SortedOf (fun n => Der S n (seg ws i j)) ms := by
  obtain ⟨kvs, e1, e2, e3, e4⟩ := h.va
  obtain ⟨l, ms, q1, q2, q3, q4⟩ := e4 i j d
  exact ⟨kvs, l, ms, e1, q1, q3, q4⟩
theorem key2_inj {i j i' j' : Nat} (h : key2 i j = key2 i' j') : i = i' ∧ j = j' := by
  injection h with h1 h2
  injection h2 with h2 _
  injection h1 with h1
  injection h2 with h2
  exact ⟨by omega, by omega⟩
theorem RdAt.no {a : Ad} {H : Hp} {r : RA} {S : SyS} {ws : List Str} {D : Nat → Nat → Prop} (h : RdAt a H r S ws D) {i j : Nat} (d : ¬ D i j) : ∃ kvs, H r.va = some (.dT kvs) ∧ valV kvs (key2 i j) = none := by
  obtain ⟨kvs, e1, e2, e3, e4⟩ := h.va
  refine ⟨kvs, e1, ?_⟩
  cases e : valV kvs (key2 i j) with
  | none => rfl
  | some v =>
    obtain ⟨i', j', e5, d'⟩ := e3 _ (valV_in e)
    obtain ⟨rfl, rfl⟩ := key2_inj e5
    exact absurd d' d
theorem same_add {H H' : Hp} {D : Addr} {o : HO} (h : Same H H') (hD : H D = none) : Same H (upd H' D o) := fun b u z => by
  rw [upd_ne (ne_of_none z hD)]
  exact h b u z
def sp_rdWords (a : Ad) : Sp := fun vs H Q _ => ∃ (r : RA) (S : SyS) (ws : List Str) (D : Nat → Nat → Prop), vs = [.ref r.p] ∧ RdAt a H r S ws D ∧ ∀ p H', Same H H' → H' p = some (.tup (ws.map V.str)) → Q (.ref p) H'
def sp_counts (a : Ad) : Sp := fun vs H Q _ => ∃ (r : RA) (S : SyS) (ws : List Str) (D : Nat → Nat → Prop) (q : Addr) (row : Rw) (i j : Nat), vs = [.ref r.p, .ref q, .int i, .int j] ∧ RdAt a H r S ws D ∧ S.Ok ∧ ws.length ≤ 6 ∧ j ≤ ws.length ∧ H q = some (.tup (rowV row)) ∧ i ≤ j ∧ (i < j → D i j) ∧
  ∀ (l : Addr) (gs : List Int) H', Same H H' → H l = none → H' l = some (.lst (gs.map V.int)) → (∀ g, g ∈ gs ↔ CountD S row g (seg ws i j)) → Q (.ref l) H'
def sp_rests (a : Ad) : Sp := fun vs H Q _ => ∃ (r : RA) (S : SyS) (ws : List Str) (D : Nat → Nat → Prop) (q : Addr) (row : Rw) (i j : Nat), vs = [.ref r.p, .ref q, .int i, .int j] ∧ RdAt a H r S ws D ∧ S.Ok ∧ ws.length ≤ 6 ∧ j ≤ ws.length ∧ H q = some (.tup (rowV row)) ∧ i ≤ j ∧ (i < j → D i j) ∧
  ∀ (l : Addr) (gs : List Int) H', Same H H' → H l = none → H' l = some (.lst (gs.map V.int)) → (∀ g, g ∈ gs ↔ RestD S row g (seg ws i j)) → Q (.ref l) H'
def sp_meanings (a : Ad) : Sp := fun vs H Q _ => ∃ (r : RA) (S : SyS) (ws : List Str), vs = [.ref r.p] ∧ RdAt a H r S ws (Full ws) ∧ S.Ok ∧ ∀ p (ms : List Int) H', Same H H' → H' p = some (.tup (ms.map V.int)) → SortedOf (fun n => Der S n ws) ms → Q (.ref p) H'
section
variable {P : Program} {w : World} {K : PySem.W.Frag} {mg : Str → Option Value} {base : Heap} {a : Ad}
theorem g_rdWords (T : Txt K mg a) : FnG P w K mg base 1 a.f_rdWords a.d_rdWords ["self"] (sp_rdWords a) := by
  refine okG T.F_rdWords sc_rdWords (fun vs H Q E h => ?_) (fun c pn cdv A outer s H vs Q E hc hr h => ?_)
  · obtain ⟨r, S, ws, D, rfl, _⟩ := h
    rfl
  · obtain ⟨r, S, ws, D, rfl, hd, k⟩ := h
    refine ⟨_, (pss_one (ps_ret (pe_callTy (tupOf K) (by rfl) T.z_tuple (by decide +kernel) (pa_cons (fldK K (pv 0) rfl) pa_nil)))), ?_⟩
    refine ⟨_, rfl, r.p, a.cRd, r.dx, _, _, rfl, hd.ob, T.cl_cRd, T.n_cRd__words, fR_words, r.la, _, rfl, .inl ⟨SqL.of hd.la, fun l hl => k l _ (same_upd _ hl) upd_same⟩⟩
theorem g_counts (T : Txt K mg a) (G_isSpoken : FnG P w K mg base 1 a.f_isSpoken a.d_isSpoken ["row", "count"] sp_isSpoken) : FnG P w K mg base 2 a.f_counts a.d_counts ["self", "row", "start", "at"] (sp_counts a) := by
  refine okG T.F_counts sc_counts (fun vs H Q E h => ?_) (fun c pn cdv A outer s H vs Q E hc hr h => ?_)
  · obtain ⟨r, S, ws, D, q, row, i, j, rfl, _⟩ := h
    rfl
  · obtain ⟨r, S, ws, D, q, row, i, j, rfl, hd, ok, hws, hj, hq, hij, hD, k⟩ := h
    refine ⟨_, (pss_cons (ps_if (pt_cmpR op_eq (pv 3) (pv 2) (nomark _)) (pss_one (ps_ret (pe_ifExp (pt_val (pe_ix (ixT K) (pv 1) pe_int (fun _ _ => rfl))) (pe_lst (pa_cons pe_int pa_nil)) (pe_lst pa_nil)))) pss_nil)
      (pss_one (ps_ret (peg_lc (own := [("value", 4)]) hc sc_counts.nd (pigL K (pe_dget (huH hr) (fldK K (pv 0) rfl) (pe_tup (pa_cons (pv 2) (pa_cons (pv 3) pa_nil))) (fun _ _ => rfl))) (blkOk_by (own := [("value", 4)]) (N := ["self", "row", "start", "at", "value"]) (sc := defScope s_counts) (by decide +kernel)) (fun _ _ _ _ _ => (pg_name (i := 4) sc_counts.nd rfl (.inl rfl))) (fun _ _ _ _ _ => (pts_one (pt_val (peg_call hc G_isSpoken (hr.mono (by omega)) (by rfl) T.m_isSpoken T.F_isSpoken.kp T.b_isSpoken (pa_cons (pv 1) (pa_cons (pv 4) pa_nil)))))) (fun _ _ _ _ _ => (pv 4)))))), ?_⟩
    refine ⟨_, rfl, _, rfl, rfl, _, rfl, ?_⟩
    by_cases e : i = j
    · subst e
      rw [dint_t rfl]
      refine iteT ⟨_, rfl, q, _, 3, .bl row.uns, rfl, rfl, SqT.of hq, rfl, row.uns, rfl, ?_⟩
      cases hu : row.uns with
      | true =>
        refine iteT ⟨z1, fun l hl => k l [1] _ (same_upd _ hl) hl upd_same fun g => ?_⟩
        rw [seg_self, List.mem_singleton]
        constructor
        · rintro rfl
          exact .inl ⟨rfl, hu, rfl⟩
        · rintro (⟨rfl, _⟩ | ⟨_, d⟩)
          · rfl
          · exact absurd rfl (d.pos ok).2
      | false =>
        refine iteF ⟨z0, fun l hl => k l [] _ (same_upd _ hl) hl upd_same fun g => ?_⟩
        rw [seg_self]
        constructor
        · intro h
          cases h
        · rintro (⟨_, h, _⟩ | ⟨_, d⟩)
          · rw [hu] at h
            cases h
          · exact absurd rfl (d.pos ok).2
    · rw [dint_f (by omega)]
      obtain ⟨kvs, l, ms, va, vl, hl, so⟩ := hd.get (hD (by omega))
      have hms := der_len ok hws so
      refine iteF ⟨_, rfl, r.p, a.cRd, r.dx, _, _, rfl, hd.ob, T.cl_cRd, T.n_cRd__values, fR_values, _, rfl, _, rfl, z2, fun p hp => ⟨r.va, .ref l, rfl, ?_, ?_⟩⟩
      · have := DGet.t (k := key2 i j) (H := upd H p (.tup [.int i, .int j])) (b := p) ((same_upd _ hp) _ _ va) upd_same
        rw [vl] at this
        exact this
      have s1 : Same H (upd H p (.tup [.int i, .int j])) := same_upd _ hp
      refine ⟨l, rfl, ⟨_, SqL.of (s1 _ _ hl)⟩, fun D2 hD2 => lc_list (K := K) (a := l) (xs := ms.map V.int)
        (fun n H' => Same (upd H p (.tup [.int i, .int j])) H' ∧ H' D2 = some (.lst (((ms.take n).filter (spokenB row)).map V.int))) ⟨same_upd _ hD2, upd_same⟩ (fun n H' _ h => SqL.of (h.1 _ _ (s1 _ _ hl))) ?_ ?_⟩
      · rintro n x H' hx ⟨g1, g2⟩
        rw [List.getElem?_map] at hx
        obtain ⟨m, hm, rfl⟩ := Option.map_eq_some_iff.mp hx
        refine ⟨rfl, _, rfl, _, rfl, q, row, m, rfl, g1 _ _ (s1 _ _ hq), _, rfl, ?_⟩
        cases hb : spokenB row m with
        | true =>
          refine iteT ⟨_, rfl, _, g2, ?_, same_add g1 hD2, ?_⟩
          · rw [List.length_map]
            have h1 : ((ms.take n).filter (spokenB row)).length ≤ (ms.take n).length := List.length_filter_le _ _
            rw [List.length_take] at h1
            exact mil_line (by omega)
          · rw [upd_same, take_snoc hm, List.filter_append, List.map_append]
            simp [hb]
        | false =>
          refine iteF ⟨g1, ?_⟩
          rw [g2, take_snoc hm, List.filter_append]
          simp [hb]
      · rintro H2 ⟨g1, g2⟩
        rw [List.length_map, List.take_length] at g2
        refine k D2 _ H2 (s1.trans g1) ?_ g2 fun g => ?_
        · exact Same.free s1 hD2
        · rw [List.mem_filter, spokenB_iff, so.2 g]
          constructor
          · rintro ⟨d, sp⟩
            exact .inr ⟨sp, d⟩
          · rintro (⟨_, _, h⟩ | ⟨sp, d⟩)
            · exact absurd h (seg_ne (by omega) hj)
            · exact ⟨d, sp⟩
theorem g_rests (T : Txt K mg a) : FnG P w K mg base 1 a.f_rests a.d_rests ["self", "row", "start", "stop"] (sp_rests a) := by
  refine okG T.F_rests sc_rests (fun vs H Q E h => ?_) (fun c pn cdv A outer s H vs Q E hc hr h => ?_)
  · obtain ⟨r, S, ws, D, q, row, i, j, rfl, _⟩ := h
    rfl
  · obtain ⟨r, S, ws, D, q, row, i, j, rfl, hd, ok, hws, hj, hq, hij, hD, k⟩ := h
    refine ⟨_, (pss_cons (ps_if (pt_cmpR op_eq (pv 2) (pv 3) (nomark _)) (pss_one (ps_ret (pe_lst (pa_cons pe_int pa_nil)))) pss_nil)
      (pss_one (ps_ret (peg_lc (own := [("value", 4)]) hc sc_rests.nd (pigL K (pe_dget (huH hr) (fldK K (pv 0) rfl) (pe_tup (pa_cons (pv 2) (pa_cons (pv 3) pa_nil))) (fun _ _ => rfl))) (blkOk_by (own := [("value", 4)]) (N := ["self", "row", "start", "stop", "value"]) (sc := defScope s_rests) (by decide +kernel)) (fun _ _ _ _ _ => (pg_name (i := 4) sc_rests.nd rfl (.inl rfl))) (fun _ _ _ _ _ => (pts_one (pt_cmpR op_le (pv 4) (pe_ix (ixT K) (pv 1) pe_int (fun _ _ => rfl)) (nomark _)))) (fun _ _ _ _ _ => (pv 4)))))), ?_⟩
    refine ⟨_, rfl, _, rfl, rfl, _, rfl, ?_⟩
    by_cases e : i = j
    · subst e
      rw [dint_t rfl]
      refine iteT ⟨z1, fun l hl => k l [0] _ (same_upd _ hl) hl upd_same fun g => ?_⟩
      rw [seg_self, List.mem_singleton]
      constructor
      · rintro rfl
        exact .inl ⟨rfl, rfl⟩
      · rintro (⟨rfl, _⟩ | ⟨_, d⟩)
        · rfl
        · exact absurd rfl (d.pos ok).2
    · rw [dint_f (by omega)]
      obtain ⟨kvs, l, ms, va, vl, hl, so⟩ := hd.get (hD (by omega))
      have hms := der_len ok hws so
      refine iteF ⟨_, rfl, r.p, a.cRd, r.dx, _, _, rfl, hd.ob, T.cl_cRd, T.n_cRd__values, fR_values, _, rfl, _, rfl, z2, fun p hp => ⟨r.va, .ref l, rfl, ?_, ?_⟩⟩
      · have := DGet.t (k := key2 i j) (H := upd H p (.tup [.int i, .int j])) (b := p) ((same_upd _ hp) _ _ va) upd_same
        rw [vl] at this
        exact this
      have s1 : Same H (upd H p (.tup [.int i, .int j])) := same_upd _ hp
      refine ⟨l, rfl, ⟨_, SqL.of (s1 _ _ hl)⟩, fun D2 hD2 => lc_list (K := K) (a := l) (xs := ms.map V.int)
        (fun n H' => Same (upd H p (.tup [.int i, .int j])) H' ∧ H' D2 = some (.lst (((ms.take n).filter fun v => decide (v ≤ row.rest)).map V.int))) ⟨same_upd _ hD2, upd_same⟩ (fun n H' _ h => SqL.of (h.1 _ _ (s1 _ _ hl))) ?_ ?_⟩
      · rintro n x H' hx ⟨g1, g2⟩
        rw [List.getElem?_map] at hx
        obtain ⟨m, hm, rfl⟩ := Option.map_eq_some_iff.mp hx
        refine ⟨rfl, _, rfl, _, rfl, q, _, 4, .int row.rest, rfl, rfl, SqT.of (g1 _ _ (s1 _ _ hq)), rfl, _, _, rfl, rfl, _, rfl, ?_⟩
        by_cases hb : m ≤ row.rest
        · rw [decide_eq_true hb]
          refine iteT ⟨_, rfl, _, g2, ?_, same_add g1 hD2, ?_⟩
          · rw [List.length_map]
            have h1 : ((ms.take n).filter fun v => decide (v ≤ row.rest)).length ≤ (ms.take n).length := List.length_filter_le _ _
            rw [List.length_take] at h1
            exact mil_line (by omega)
          · rw [upd_same, take_snoc hm, List.filter_append, List.map_append]
            simp [hb]
        · rw [decide_eq_false hb]
          refine iteF ⟨g1, ?_⟩
          rw [g2, take_snoc hm, List.filter_append]
          simp [hb]
      · rintro H2 ⟨g1, g2⟩
        rw [List.length_map, List.take_length] at g2
        refine k D2 _ H2 (s1.trans g1) ?_ g2 fun g => ?_
        · exact Same.free s1 hD2
        · rw [List.mem_filter, decide_eq_true_iff, so.2 g]
          constructor
          · rintro ⟨d, sp⟩
            exact .inr ⟨sp, d⟩
          · rintro (⟨_, h⟩ | ⟨sp, d⟩)
            · exact absurd h (seg_ne (by omega) hj)
            · exact ⟨d, sp⟩
theorem g_meanings (T : Txt K mg a) : FnG P w K mg base 1 a.f_meanings a.d_meanings ["self"] (sp_meanings a) := by
  refine okG T.F_meanings sc_meanings (fun vs H Q E h => ?_) (fun c pn cdv A outer s H vs Q E hc hr h => ?_)
  · obtain ⟨r, S, ws, rfl, _⟩ := h
    rfl
  · obtain ⟨r, S, ws, rfl, hd, ok, k⟩ := h
    refine ⟨_, (pss_one (ps_ret (pe_callTy (tupOf K) (by rfl) T.z_tuple (by decide +kernel) (pa_cons (pe_dget2 (huH hr) (fldK K (pv 0) rfl) (pe_tup (pa_cons pe_int (pa_cons (pe_callB (lenSeq K) (by rfl) T.z_len (by decide +kernel) (pa_cons (fldK K (pv 0) rfl) pa_nil)) pa_nil))) (pe_lst pa_nil) ⟨rfl, rfl, rfl, rfl⟩) pa_nil)))), ?_⟩
    refine ⟨_, rfl, r.p, a.cRd, r.dx, _, _, rfl, hd.ob, T.cl_cRd, T.n_cRd__values, fR_values, r.va, rfl, ?_⟩
    by_cases e : ws = []
    · subst e
      obtain ⟨kvs, va, vn⟩ := hd.no (i := 0) (j := 0) (fun h => Nat.lt_irrefl _ h.1)
      refine ⟨.inr ⟨_, .inl va⟩, _, rfl, r.p, a.cRd, r.dx, _, _, rfl, hd.ob, T.cl_cRd, T.n_cRd__words, fR_words, r.la, _, rfl, .inl (SqL.of hd.la), z2, fun p hp => ⟨z0, fun l hl => ⟨_, DGet.t (k := key2 0 0) ((same_upd _ hl) _ _ ((same_upd _ hp) _ _ va)) ((same_upd _ hl) _ _ upd_same), ?_⟩⟩⟩
      rw [vn]
      exact ⟨l, [], rfl, .inl ⟨SqL.of upd_same, fun l2 hl2 => k l2 [] _ (((same_upd _ hp).trans (same_upd _ hl)).trans (same_upd _ hl2)) upd_same ⟨.nil, fun n => ⟨(fun h => nomatch h), fun d => absurd rfl (d.pos ok).2⟩⟩⟩⟩
    · have h0 : 0 < ws.length := List.length_pos_iff.mpr e
      obtain ⟨kvs, l1, ms, va, vl, hl1, so⟩ := hd.get (i := 0) (j := ws.length) ⟨h0, Nat.le_refl _⟩
      rw [seg_all] at so
      refine ⟨.inr ⟨_, .inl va⟩, _, rfl, r.p, a.cRd, r.dx, _, _, rfl, hd.ob, T.cl_cRd, T.n_cRd__words, fR_words, r.la, _, rfl, .inl (SqL.of hd.la), z2, fun p hp => ⟨z0, fun l hl => ⟨_, DGet.t (k := key2 0 ws.length) ((same_upd _ hl) _ _ ((same_upd _ hp) _ _ va)) ((same_upd _ hl) _ _ (upd_same.trans ?_)), ?_⟩⟩⟩
      · rw [List.length_map]
        rfl
      rw [vl]
      exact ⟨l1, _, rfl, .inl ⟨SqL.of ((same_upd _ hl) _ _ ((same_upd _ hp) _ _ hl1)), fun l2 hl2 => k l2 ms _ (((same_upd _ hp).trans (same_upd _ hl)).trans (same_upd _ hl2)) upd_same so⟩⟩
end
end K30
set_option Elab.async false
set_option linter.all false
set_option maxRecDepth 100000
set_option maxHeartbeats 4000000
/-! K30C: the search. -/
namespace K30
open PySem PySem.Spec PyProof.Rows L2 L2H
/-! ### the place of the outermost word -/
def AtP (S : SyS) (ws : List Str) (i j : Nat) (n : Int) : Prop := ∃ r g, r ∈ S.mult ∧ ws[j]? = some r.w ∧ CountD S r g (seg ws i j) ∧ BegunG S r g (ws.drop (j + 1)) n
theorem begun_iff {S : SyS} {ws : List Str} {i : Nat} (n : Int) : Begun S (ws.drop i) n ↔ ∃ j, i ≤ j ∧ j < ws.length ∧ AtP S ws i j n := by
  constructor
  · rintro ⟨r, pc, u', g, hr, hu, hc, hb⟩
    have hl : ws.length - i = pc.length + (u'.length + 1) := by
      rw [← List.length_drop, hu, List.length_append, List.length_cons]
    refine ⟨i + pc.length, by omega, by omega, r, g, hr, ?_, ?_, ?_⟩
    · rw [← List.getElem?_drop, hu, List.getElem?_append_right (Nat.le_refl _), Nat.sub_self]
      rfl
    · have : seg ws i (i + pc.length) = pc := by
        unfold seg
        rw [hu, Nat.add_sub_cancel_left, List.take_left']
        rfl
      rw [this]
      exact hc
    · have : ws.drop (i + pc.length + 1) = u' := by
        rw [Nat.add_assoc, ← List.drop_drop, hu, List.drop_append, List.drop_of_length_le (by omega), Nat.add_sub_cancel_left]
        rfl
      rw [this]
      exact hb
  · rintro ⟨j, hij, hj, r, g, hr, hw, hc, hb⟩
    refine ⟨r, seg ws i j, ws.drop (j + 1), g, hr, ?_, hc, hb⟩
    have h1 : (ws.drop i)[j - i]? = some r.w := by
      rw [List.getElem?_drop, Nat.add_sub_cancel' hij]
      exact hw
    obtain ⟨hlt, h2⟩ := List.getElem?_eq_some_iff.mp h1
    have h3 : ws.drop (j + 1) = (ws.drop i).drop (j - i + 1) := by
      rw [List.drop_drop]
      congr 1
      omega
    rw [h3, ← h2, seg, List.getElem_cons_drop, List.take_append_drop]
theorem mult_uniq {S : SyS} (ok : S.Ok) {r r' : Rw} (h : r ∈ S.mult) (h' : r' ∈ S.mult) (e : r.w = r'.w) : r = r' := by
  have nd := (List.nodup_append.mp ok.nd).2.1
  obtain ⟨i, hi, rfl⟩ := List.mem_iff_getElem.mp h
  obtain ⟨j, hj, rfl⟩ := List.mem_iff_getElem.mp h'
  have : (S.mult.map (·.w))[i]'(by rw [List.length_map]; exact hi) = (S.mult.map (·.w))[j]'(by rw [List.length_map]; exact hj) := by
    rw [List.getElem_map, List.getElem_map]
    exact e
  have := (List.getElem_inj nd).mp this
  subst this
  rfl
theorem IsMax.mono0 {P' : Int → Prop} {L : Int} : IsMax (fun n => P' n ∨ ∃ y ∈ ([] : List Int), False) L = IsMax P' L := by
  congr 1
  funext n
  simp
/-- a promise of nothing -/
def spNo : Sp := fun _ _ _ _ => False
/-- a Reader, and what is known of the search -/
structure Sr (a : Ad) (H : Hp) (r : RA) (S : SyS) (ws : List Str) (kd : Addr) : Prop where
  rd : RdAt a H r S ws (Full ws)
  ok : S.Ok
  hw : ws.length ≤ 6
  kn : ∃ kvs, H kd = some (.dT kvs) ∧ KnownOk S ws kvs
  ne : kd ≠ r.va
theorem Sr.same {a : Ad} {H H' : Hp} {r : RA} {S : SyS} {ws : List Str} {kd : Addr} (h : Sr a H r S ws kd) (k : Same H H') : Sr a H' r S ws kd :=
  ⟨h.rd.same k, h.ok, h.hw, h.kn.imp fun _ z => ⟨k _ _ z.1, z.2⟩, h.ne⟩
def sp_atMost (a : Ad) (n : Nat) : Sp := fun vs H Q _ => ∃ (r : RA) (S : SyS) (ws : List Str) (i : Nat) (L : Int) (kd : Addr), vs = [.ref r.p, .int i, .int L, .ref kd] ∧ Sr a H r S ws kd ∧ i ≤ ws.length ∧ L ≤ lim n ∧ L ≤ 1500000 ∧
  ∀ x H', IsMax (Poss S (ws.drop i)) L x → Kp [kd] H H' → Sr a H' r S ws kd → Q (.int x) H'
def sp_restAM (a : Ad) (n : Nat) : Sp := fun vs H Q _ => ∃ (r : RA) (S : SyS) (ws : List Str) (i : Nat) (L : Int) (kd : Addr), vs = [.ref r.p, .int i, .int L, .ref kd] ∧ Sr a H r S ws kd ∧ i ≤ ws.length ∧ L ≤ lim n ∧ L ≤ 1500000 ∧
  ∀ x H', IsMax (Poss S (ws.drop i)) L x → Kp [kd] H H' → Sr a H' r S ws kd → Q (if x = 0 ∧ i < ws.length then .non else .int x) H'
def sp_begun (a : Ad) (n : Nat) : Sp := fun vs H Q _ => ∃ (r : RA) (S : SyS) (ws : List Str) (i : Nat) (L : Int) (kd : Addr), vs = [.ref r.p, .int i, .int L, .ref kd] ∧ Sr a H r S ws kd ∧ i ≤ ws.length ∧ L ≤ lim (n + 1) ∧ L ≤ 1500000 ∧
  ∀ x H', IsMax (Begun S (ws.drop i)) L x → Kp [kd] H H' → Sr a H' r S ws kd → Q (.int x) H'
def sp_first (a : Ad) (n : Nat) : Sp := fun vs H Q _ => ∃ (r : RA) (S : SyS) (ws : List Str) (L : Int) (kd : Addr), vs = [.ref r.p, .int L, .ref kd] ∧ Sr a H r S ws kd ∧ L ≤ lim (n + 1) ∧ L ≤ 1500000 ∧
  ∀ x H', IsMax (fun m => (∃ w, (w, m) ∈ S.simple) ∨ ∃ r ∈ S.mult, FirstR S r m) L x → Kp [kd] H H' → Sr a H' r S ws kd → Q (.int x) H'
section
variable {P : Program} {w : World} {K : PySem.W.Frag} {mg : Str → Option Value} {base : Heap} {a : Ad}
theorem g_no {x qual : Str} {st : Stmt} {f : Addr} {fd : FuncData} {N ps : List Str} (F : Fun K x qual st f fd) (S : FnScope N ps (defScope st)) : FnG P w K mg base 1 f fd ps spNo :=
  okG F S (fun vs H Q E h => h.elim) (fun c pn cdv A outer s H vs Q E hc hr h => h.elim)
theorem g_restAM {k n : Nat} (T : Txt K mg a) (G_atMost : FnG P w K mg base k a.f_atMost a.d_atMost ["self", "start", "limit", "known"] (sp_atMost a n)) : FnG P w K mg base (k + 1) a.f_restAM a.d_restAM ["self", "start", "limit", "known"] (sp_restAM a n) := by
  refine okG T.F_restAM sc_restAM (fun vs H Q E h => ?_) (fun c pn cdv A outer s H vs Q E hc hr h => ?_)
  · obtain ⟨r, S, ws, i, L, kd, rfl, _⟩ := h
    rfl
  · obtain ⟨r, S, ws, i, L, kd, rfl, sr, hi, hl, hl2, q⟩ := h
    refine ⟨_, (pss_cons (ps_set (i := 4) sc_restAM.nd rfl (Or.inl rfl) (peg_meth hc (pv 0) T.cl_cRd T.e_atMost G_atMost (hr.mono (by omega)) T.b_atMost (pa_cons (pv 1) (pa_cons (pv 2) (pa_cons (pv 3) pa_nil)))))
      (pss_one (ps_ret (pe_ifExp (PW.pt (pw_and (pt_cmpR op_eq (pv 4) pe_int (nomark _)) (pw_and1 (pt_cmpR op_lt (pv 1) (pe_callB (lenSeq K) (by rfl) T.z_len (by decide +kernel) (pa_cons (fldK K (pv 0) rfl) pa_nil)) (nomark _))))) pe_non (pv 4))))), ?_⟩
    refine ⟨_, rfl, r.p, r.dx, _, rfl, sr.rd.ob, rfl, _, rfl, _, rfl, _, rfl, r, S, ws, i, L, kd, rfl, sr, hi, hl, hl2, fun x H' hx hk hs => ?_⟩
    have q' := q x H' hx hk hs
    have hd := hs.rd
    refine ⟨_, rfl, rfl, _, rfl, ?_⟩
    by_cases h0 : x = 0
    · rw [dint_t h0]
      refine iteT ⟨_, rfl, _, rfl, r.p, a.cRd, r.dx, _, _, rfl, hd.ob, T.cl_cRd, T.n_cRd__words, fR_words, _, _, rfl, .inl (SqL.of hd.la), _, _, rfl, rfl, _, rfl, ?_⟩
      rw [List.length_map]
      by_cases h1 : i < ws.length
      · rw [if_pos ⟨h0, h1⟩] at q'
        rw [decide_eq_true (show (i : Int) < (ws.length : Int) by omega)]
        exact iteT q'
      · rw [if_neg (fun z => h1 z.2)] at q'
        rw [decide_eq_false (show ¬ (i : Int) < (ws.length : Int) by omega)]
        exact iteF ⟨_, rfl, q'⟩
    · rw [dint_f h0]
      rw [if_neg (fun z => h0 z.1)] at q'
      exact iteF ⟨_, rfl, q'⟩
theorem g_begun {k n : Nat} (T : Txt K mg a) (hk2 : 2 ≤ k) (G_restAM : FnG P w K mg base k a.f_restAM a.d_restAM ["self", "start", "limit", "known"] (sp_restAM a n))
    (G_multiplier' : FnG P w K mg base 1 a.f_multiplier a.d_multiplier ["self", "word"] (sp_multiplier a)) (G_counts' : FnG P w K mg base 2 a.f_counts a.d_counts ["self", "row", "start", "at"] (sp_counts a)) :
    FnG P w K mg base (k + 1) a.f_begun a.d_begun ["self", "start", "limit", "known"] (sp_begun a n) := by
  have G_multiplier := G_multiplier'.mono (k := k) (by omega)
  have G_counts := G_counts'.mono (k := k) hk2
  refine okG T.F_begun sc_begun (fun vs H Q E h => ?_) (fun c pn cdv A outer s H vs Q E hc hr h => ?_)
  · obtain ⟨r, S, ws, i, L, kd, rfl, _⟩ := h
    rfl
  · obtain ⟨r, S, ws, i, L, kd, rfl, sr, hi, hl, hl2, q⟩ := h
    refine ⟨_, (pss_cons (ps_set (i := 4) sc_begun.nd rfl (Or.inl rfl) pe_int)
      (pss_cons (psg_for PassesOwn.never hc (pig_range2 (by rfl) T.z_range (pa_cons (pv 1) (pa_cons (pe_callB (lenSeq K) (by rfl) T.z_len (by decide +kernel) (pa_cons (fldK K (pv 0) rfl) pa_nil)) pa_nil))) (pg_name (i := 5) sc_begun.nd rfl (.inl rfl))
      (pss_cons (ps_set (i := 6) sc_begun.nd rfl (Or.inl rfl) (peg_meth hc (fldK K (pv 0) rfl) T.cl_cSys T.e_multiplier G_multiplier (hr.mono (by omega)) T.b_multiplier (pa_cons (pe_ix (ixL K) (fldK K (pv 0) rfl) (pv 5) (fun _ _ => rfl)) pa_nil)))
      (pss_one (ps_if (pt_cmpR op_notN (pv 6) pe_non (nomark _)) (pss_one (psg_for PassesOwn.never hc (pigL K (peg_meth hc (pv 0) T.cl_cRd T.e_counts G_counts (hr.mono (by omega)) T.b_counts (pa_cons (pv 6) (pa_cons (pv 1) (pa_cons (pv 5) pa_nil))))) (pg_name (i := 7) sc_begun.nd rfl (.inl rfl))
      (pss_cons (ps_set (i := 8) sc_begun.nd rfl (Or.inl rfl) (peg_meth hc (pv 0) T.cl_cRd T.e_restAM G_restAM (hr.mono (by omega)) T.b_restAM (pa_cons (pe_op op_add (pv 5) pe_int) (pa_cons (pe_callB (cg_min2 hc) (by rfl) T.z_min (by decide +kernel) (pa_cons (pe_ix (ixT K) (pv 6) pe_int (fun _ _ => rfl)) (pa_cons (pe_op op_sub (pv 2) (pe_op op_mul (pv 7) (pe_ix (ixT K) (pv 6) pe_int (fun _ _ => rfl)))) pa_nil))) (pa_cons (pv 3) pa_nil)))))
      (pss_one (ps_if (PW.pt (pw_and (pt_cmpR op_notN (pv 8) pe_non (nomark _)) (pw_and1 (pt_cmpR op_le (pe_op op_mul (pv 7) (pe_ix (ixT K) (pv 6) pe_int (fun _ _ => rfl))) (pv 2) (nomark _))))) (pss_one (ps_set (i := 4) sc_begun.nd rfl (Or.inl rfl) (pe_callB (cg_max2 hc) (by rfl) T.z_max (by decide +kernel) (pa_cons (pv 4) (pa_cons (pe_op op_add (pe_op op_mul (pv 7) (pe_ix (ixT K) (pv 6) pe_int (fun _ _ => rfl))) (pv 8)) pa_nil))))) pss_nil))))) pss_nil))))
      (pss_one (ps_ret (pv 4))))), ?_⟩
    have hd := sr.rd
    have hw := sr.hw
    have ok := sr.ok
    have hlen : (ws.map V.str).length = ws.length := List.length_map _
    have hnn : (((ws.map V.str).length : Int) - (i : Int)).toNat = ws.length - i := by omega
    refine ⟨_, rfl, _, rfl, r.p, a.cRd, r.dx, _, _, rfl, hd.ob, T.cl_cRd, T.n_cRd__words, fR_words, _, _, rfl, .inl (SqL.of hd.la), _, _, rfl, ⟨by omega, by omega, by omega, by omega⟩, ?_⟩
    rw [hnn]
    refine for_range (lo := (i : Int)) (n := ws.length - i) (fun m σ H1 => ∃ b v5 v6 v7 v8, σ = [some (.ref r.p), some (.int i), some (.int L), some (.ref kd), some (.int b), v5, v6, v7, v8] ∧ Kp [kd] H H1 ∧ Sr a H1 r S ws kd ∧ IsMax (fun n => ∃ j, i ≤ j ∧ j < i + m ∧ AtP S ws i j n) L b)
      ⟨0, none, none, none, none, rfl, .refl _ _, sr, .none fun n _ _ ⟨j, h1, h2, _⟩ => by omega⟩ ?_ ?_
    · rintro m σ H1 hm ⟨b, v5, v6, v7, v8, rfl, k1, sr1, mx⟩
      have hd1 := sr1.rd
      have ez : (i : Int) + (m : Int) = ((i + m : Nat) : Int) := by omega
      rw [ez]
      have hj : i + m < ws.length := by omega
      have hwj : ws[i + m]? = some ws[i + m] := List.getElem?_eq_getElem hj
      have hvj : (ws.map V.str)[i + m]? = some (.str ws[i + m]) := by rw [List.getElem?_map, hwj]; rfl
      refine ⟨_, rfl, r.p, a.cRd, r.dx, _, _, rfl, hd1.ob, T.cl_cRd, T.n_cRd__system, fR_system, r.s.p, r.s.dx, _, rfl, hd1.sys.ob, rfl, _, rfl, r.p, a.cRd, r.dx, _, _, rfl, hd1.ob, T.cl_cRd, T.n_cRd__words, fR_words, _, rfl, r.la, _, ((i + m : Nat) : Int), .str ws[i + m], rfl, rfl, SqL.of hd1.la, atI_nat hvj, r.s, S, ws[i + m], rfl, hd1.sys, fun x q0 row e1 e2 e3 => ?_, fun hno => ?_⟩
      · have hrow : row ∈ S.mult := List.mem_of_getElem? e2
        have ho := hd1.sys.me x q0 row e1 e2
        have hv := ok.mv row hrow
        have hrr := ok.mr row hrow
        have nkq : q0 ≠ kd := fun z => by
          obtain ⟨kvs, h1, _⟩ := sr1.kn
          rw [z, h1] at ho
          cases ho
        refine ⟨_, rfl, rfl, _, rfl, iteT ?_⟩
        refine ⟨_, rfl, r.p, r.dx, _, rfl, hd1.ob, rfl, _, rfl, _, rfl, _, rfl, r, S, ws, Full ws, q0, row, i, i + m, rfl, hd1, ok, hw, by omega, ho, by omega, fun h => ⟨by omega, by omega⟩, fun l gs H2 s2 hl0 hll gsp => ⟨l, rfl, ⟨_, SqL.of hll⟩, ?_⟩⟩
        have sr2 := sr1.same s2
        have nkl : l ≠ kd := fun z => by
          obtain ⟨kvs, h1, _⟩ := sr2.kn
          rw [z, h1] at hll
          cases hll
        have st : ∀ {H3 : Hp}, Kp [kd] H2 H3 → H3 q0 = some (.tup (rowV row)) ∧ H3 l = some (.lst (gs.map V.int)) := fun k3 =>
          ⟨k3 _ _ (s2 _ _ ho) (by simpa using nkq), k3 _ _ hll (by simpa using nkl)⟩
        refine for_list (K := K) (a := l) (xs := gs.map V.int) (fun t σ H3 => ∃ b2 v7 v8, σ = [some (.ref r.p), some (.int i), some (.int L), some (.ref kd), some (.int b2), some (.int ((i + m : Nat) : Int)), some (.ref q0), v7, v8] ∧ Kp [kd] H2 H3 ∧ Sr a H3 r S ws kd ∧
            IsMax (fun n => (∃ j, i ≤ j ∧ j < i + m ∧ AtP S ws i j n) ∨ ∃ g ∈ gs.take t, BegunG S row g (ws.drop (i + m + 1)) n) L b2)
          ⟨b, v7, v8, rfl, .refl _ _, sr2, mx.congr fun n => by simp⟩ (fun t σ H3 _ ⟨_, _, _, _, k3, _⟩ => SqL.of (st k3).2) ?_ ?_
        · rintro t x σ H3 hx ⟨b2, v7, v8, rfl, k3, sr3, mx3⟩
          rw [List.getElem?_map] at hx
          obtain ⟨g, hg, rfl⟩ := Option.map_eq_some_iff.mp hx
          have hgm : g ∈ gs := List.mem_of_getElem? hg
          have hc := (gsp g).mp hgm
          have g1 := hc.pos
          have gv := gv_ge g1 hv.1
          have hd3 := sr3.rd
          have ho3 := (st k3).1
          have hmin : (if L - g * row.v < row.rest then L - g * row.v else row.rest) ≤ lim n := lim_rest hl hv.1 g1 (by omega)
          have mulr : (-(2 ^ 64) < g ∧ g < 2 ^ 64) ∨ (-(2 ^ 64) < row.v ∧ row.v < 2 ^ 64) := .inr ⟨by omega, by omega⟩
          refine ⟨_, rfl, r.p, r.dx, _, rfl, hd3.ob, rfl, _, rfl, _, _, rfl, rfl, _, rfl, q0, _, 4, .int row.rest, rfl, rfl, SqT.of ho3, rfl, _, rfl, _, rfl, _, rfl, q0, _, 1, .int row.v, rfl, rfl, SqT.of ho3, rfl, _, _, rfl, rfl, mulr, _, _, rfl, rfl, _, _, rfl, _, rfl, r, S, ws, i + m + 1, _, kd, rfl, sr3, by omega, hmin, by split <;> omega, fun f H4 hf k4 sr4 => ?_⟩
          have hd4 := sr4.rd
          have k34 := k3.trans k4
          have ho4 := (st k34).1
          have sn : ∀ {b3 : Int}, IsMax (BegunG S row g (ws.drop (i + m + 1))) L b3 → IsMax (fun n => (∃ j, i ≤ j ∧ j < i + m ∧ AtP S ws i j n) ∨ ∃ g ∈ gs.take (t + 1), BegunG S row g (ws.drop (i + m + 1)) n) L (if b3 > b2 then b3 else b2) := fun h => by
            rw [take_snoc hg]
            exact IsMax.snoc (F := fun g n => BegunG S row g (ws.drop (i + m + 1)) n) mx3 h
          have hu : (ws.drop (i + m + 1) ≠ []) ↔ i + m + 1 < ws.length := by
            rw [ne_eq, List.drop_eq_nil_iff]
            omega
          have non : IsMax (BegunG S row g (ws.drop (i + m + 1))) L 0 → IsMax (fun n => (∃ j, i ≤ j ∧ j < i + m ∧ AtP S ws i j n) ∨ ∃ g ∈ gs.take (t + 1), BegunG S row g (ws.drop (i + m + 1)) n) L b2 := fun h => by
            have := sn h
            rw [mx3.le_of] at this
            exact this
          by_cases h0 : f = 0 ∧ i + m + 1 < ws.length
          · rw [if_pos h0]
            exact ⟨_, rfl, rfl, _, rfl, iteF ⟨b2, _, _, rfl, k34, sr4, non (begunG_none ok hf (.inl ⟨h0.1, hu.mpr h0.2⟩))⟩⟩
          · rw [if_neg h0]
            refine ⟨_, rfl, rfl, _, rfl, iteT ⟨_, rfl, _, rfl, q0, _, 1, .int row.v, rfl, rfl, SqT.of ho4, rfl, _, _, rfl, rfl, mulr, _, rfl, _, _, rfl, rfl, _, rfl, ?_⟩⟩
            by_cases hL : g * row.v ≤ L
            · rw [decide_eq_true hL]
              exact iteT ⟨_, rfl, _, rfl, _, rfl, q0, _, 1, .int row.v, rfl, rfl, SqT.of ho4, rfl, _, _, rfl, rfl, mulr, _, rfl, _, _, rfl, rfl, _, _, rfl, _, _, _, rfl, k34, sr4, sn (begunG_max ok hrow g1 hf (fun z => h0 ⟨z.1, hu.mp z.2⟩) hL)⟩
            · rw [decide_eq_false hL]
              exact iteF ⟨b2, _, _, rfl, k34, sr4, non (begunG_none ok hf (.inr hL))⟩
        · rintro σ H3 ⟨b2, v7, v8, rfl, k3, sr3, mx3⟩
          refine ⟨b2, _, _, _, _, rfl, (k1.trans (.of_same s2)).trans k3, sr3, mx3.congr fun n => ?_⟩
          rw [List.length_map, List.take_length]
          constructor
          · rintro (⟨j, h1, h2, h3⟩ | ⟨g, hg, hb⟩)
            · exact ⟨j, h1, by omega, h3⟩
            · exact ⟨i + m, by omega, by omega, row, g, hrow, e3 ▸ hwj, (gsp g).mp hg, hb⟩
          · rintro ⟨j, h1, h2, h3⟩
            by_cases e : j = i + m
            · subst e
              obtain ⟨r', g, hr', hw', hc', hb'⟩ := h3
              have : r' = row := mult_uniq ok hr' hrow (by rw [e3]; rw [hwj] at hw'; exact (Option.some.inj hw').symm)
              subst this
              exact .inr ⟨g, (gsp g).mpr hc', hb'⟩
            · exact .inl ⟨j, h1, by omega, h3⟩
      · refine ⟨_, rfl, rfl, _, rfl, iteF ⟨b, _, _, _, _, rfl, k1, sr1, mx.congr fun n => ?_⟩⟩
        constructor
        · rintro ⟨j, h1, h2, h3⟩
          exact ⟨j, h1, by omega, h3⟩
        · rintro ⟨j, h1, h2, h3⟩
          by_cases e : j = i + m
          · subst e
            obtain ⟨r', g, hr', hw', _⟩ := h3
            rw [hwj] at hw'
            exact absurd (Option.some.inj hw').symm (hno r' hr')
          · exact ⟨j, h1, by omega, h3⟩
    · rintro σ H1 ⟨b, v5, v6, v7, v8, rfl, k1, sr1, mx⟩
      refine ⟨_, rfl, q b H1 (mx.congr fun n => ?_) k1 sr1⟩
      rw [begun_iff n]
      constructor
      · rintro ⟨j, h1, h2, h3⟩
        exact ⟨j, h1, by omega, h3⟩
      · rintro ⟨j, h1, h2, h3⟩
        exact ⟨j, h1, by omega, h3⟩
theorem g_first {k n : Nat} (T : Txt K mg a) (G_atMost : FnG P w K mg base k a.f_atMost a.d_atMost ["self", "start", "limit", "known"] (sp_atMost a n)) :
    FnG P w K mg base (k + 1) a.f_first a.d_first ["self", "limit", "known"] (sp_first a n) := by
  refine okG T.F_first sc_first (fun vs H Q E h => ?_) (fun c pn cdv A outer s H vs Q E hc hr h => ?_)
  · obtain ⟨r, S, ws, L, kd, rfl, _⟩ := h
    rfl
  · obtain ⟨r, S, ws, L, kd, rfl, sr, hl, hl2, q⟩ := h
    refine ⟨_, (pss_cons (ps_set (i := 3) sc_first.nd rfl (Or.inl rfl) (pe_callBK (cg_maxD hc) (by rfl) T.z_max (by decide +kernel) (pa_cons (peg_lc (own := [("_", 6), ("value", 7)]) hc sc_first.nd (pigT K (fldK K (fldK K (pv 0) rfl) rfl)) (blkOk_by (own := [("_", 6), ("value", 7)]) (N := ["self", "limit", "known", "best", "row", "rest", "_", "value"]) (sc := defScope s_first) (by decide +kernel)) (fun _ _ _ _ _ => (pgT K 2 hc (pgs_cons (pg_name (i := 6) sc_first.nd rfl (.inl rfl)) (pgs_cons (pg_name (i := 7) sc_first.nd rfl (.inl rfl)) pgs_nil)))) (fun _ _ _ _ _ => (pts_one (pt_cmpR op_le (pv 7) (pv 1) (nomark _)))) (fun _ _ _ _ _ => (pv 7))) pa_nil) (pk_cons pe_int pk_nil)))
      (pss_cons (psg_for PassesOwn.never hc (pigT K (fldK K (fldK K (pv 0) rfl) rfl)) (pg_name (i := 4) sc_first.nd rfl (.inl rfl))
      (pss_one (ps_if (PW.pt (pw_and (pt_val (pe_ix (ixT K) (pv 4) pe_int (fun _ _ => rfl))) (pw_and1 (pt_cmpR op_le (pe_ix (ixT K) (pv 4) pe_int (fun _ _ => rfl)) (pv 1) (nomark _))))) (pss_cons (ps_set (i := 5) sc_first.nd rfl (Or.inl rfl) (peg_meth hc (pv 0) T.cl_cRd T.e_atMost G_atMost (hr.mono (by omega)) T.b_atMost (pa_cons (pe_callB (lenSeq K) (by rfl) T.z_len (by decide +kernel) (pa_cons (fldK K (pv 0) rfl) pa_nil)) (pa_cons (pe_callB (cg_min2 hc) (by rfl) T.z_min (by decide +kernel) (pa_cons (pe_ix (ixT K) (pv 4) pe_int (fun _ _ => rfl)) (pa_cons (pe_op op_sub (pv 1) (pe_ix (ixT K) (pv 4) pe_int (fun _ _ => rfl))) pa_nil))) (pa_cons (pv 2) pa_nil)))))
      (pss_one (ps_set (i := 3) sc_first.nd rfl (Or.inl rfl) (pe_callB (cg_max2 hc) (by rfl) T.z_max (by decide +kernel) (pa_cons (pv 3) (pa_cons (pe_op op_add (pe_ix (ixT K) (pv 4) pe_int (fun _ _ => rfl)) (pv 5)) pa_nil)))))) pss_nil)))
      (pss_one (ps_ret (pv 3))))), ?_⟩
    have hd := sr.rd
    have hw := sr.hw
    have ok := sr.ok
    refine ⟨_, rfl, r.p, a.cRd, r.dx, _, _, rfl, hd.ob, T.cl_cRd, T.n_cRd__system, fR_system, r.s.p, a.cSys, r.s.dx, _, _, rfl, hd.sys.ob, T.cl_cSys, T.n_cSys_simple, fS_simple, r.s.ts, rfl, ⟨_, SqT.of hd.sys.ts⟩, fun D hD => lc_tup (K := K) (a := r.s.ts) (xs := r.s.ps.map V.ref)
      (fun i H' => Same H H' ∧ H' D = some (.lst ((((S.simple.take i).map (·.2)).filter fun v => decide (v ≤ L)).map V.int))) ⟨same_upd _ hD, upd_same⟩ (fun i H' _ h => SqT.of (h.1 _ _ hd.sys.ts)) ?_ ?_⟩
    · rintro i x H' hx ⟨g1, g2⟩
      obtain ⟨q0, e, rfl, he, ho⟩ := hd.sys.srow hx
      refine ⟨q0, _, rfl, SqT.of (g1 _ _ ho), rfl, _, _, rfl, _, _, rfl, rfl, rfl, _, rfl, _, rfl, _, _, rfl, rfl, _, rfl, ?_⟩
      by_cases hb : e.2 ≤ L
      · rw [decide_eq_true hb]
        refine iteT ⟨_, rfl, _, g2, ?_, same_add g1 hD, ?_⟩
        · rw [List.length_map]
          have h1 : (((S.simple.take i).map (·.2)).filter fun v => decide (v ≤ L)).length ≤ ((S.simple.take i).map (·.2)).length := List.length_filter_le _ _
          rw [List.length_map, List.length_take] at h1
          have := ok.ls
          exact small_len (by omega)
        · rw [upd_same, take_snoc he, List.map_append, List.filter_append, List.map_append]
          simp [hb]
      · rw [decide_eq_false hb]
        refine iteF ⟨g1, ?_⟩
        rw [g2, take_snoc he, List.map_append, List.filter_append]
        simp [hb]
    · rintro H1 ⟨g1, g2⟩
      rw [List.length_map, hd.sys.pl, List.take_length] at g2
      have sr1 := sr.same g1
      have hd1 := sr1.rd
      have loop : ∀ b : Int, IsMax (fun m => ∃ w, (w, m) ∈ S.simple) L b → _ := fun b mb => for_tup (K := K) (a := r.s.tm) (xs := r.s.ms.map V.ref) (g := gName 4) (tb := tIfS (tAnd (tB (tOp (rIxT K) (tVar 4) (tC (V.int 3)))) (tTest (tOp (rI0 fun i j => V.bl (decide (i ≤ j))) (tOp (rIxT K) (tVar 4) (tC (V.int 1))) (tVar 1)))) (tSeq
            (tAsg
              (tMethG a.cRd (Str.ofString "_at_most") (sp_atMost a n) (tVar 0)
                (tCons
                  (tCB (fun xs H Q => ∃ p ys, xs = [V.ref p] ∧ (SqL K H p ys ∨ SqT K H p ys) ∧ Q (V.int ↑ys.length) H)
                    (tCons (tFld K (tVar 0) (Str.ofString "_words")) tNil))
                  (tCons
                    (tCB (fun xs H Q => ∃ i j, xs = [V.int i, V.int j] ∧ Q (V.int (if j < i then j else i)) H)
                      (tCons (tOp (rIxT K) (tVar 4) (tC (V.int 4)))
                        (tCons (tOp (rI0 fun i j => V.int (i - j)) (tVar 1) (tOp (rIxT K) (tVar 4) (tC (V.int 1))))
                          tNil)))
                    (tCons (tVar 2) tNil))))
              (gName 5))
            (tAsg
              (tCB (fun xs H Q => ∃ i j, xs = [V.int i, V.int j] ∧ Q (V.int (if j > i then j else i)) H)
                (tCons (tVar 3)
                  (tCons (tOp (rI0 fun i j => V.int (i + j)) (tOp (rIxT K) (tVar 4) (tC (V.int 1))) (tVar 5)) tNil)))
              (gName 3))) tNext) (D := { nx := tRet (tVar 3) { nx := fun x H' => Q V.non H', rt := Q }, rt := Q }) (σ := [some (.ref r.p), some (.int L), some (.ref kd), some (.int b), none, none, none, none]) (H := H1)
        (fun t σ H3 => ∃ b2 v4 v5, σ = [some (.ref r.p), some (.int L), some (.ref kd), some (.int b2), v4, v5, none, none] ∧ Kp [kd] H H3 ∧ Sr a H3 r S ws kd ∧ IsMax (fun m => (∃ w, (w, m) ∈ S.simple) ∨ ∃ r ∈ S.mult.take t, FirstR S r m) L b2)
        ⟨b, none, none, rfl, .of_same g1, sr1, mb.congr fun n => by simp⟩ (fun t σ H3 _ ⟨_, _, _, _, k3, sr3, _⟩ => SqT.of sr3.rd.sys.tm) (by
          rintro t x σ H3 hx ⟨b2, v4, v5, rfl, k3, sr3, mx3⟩
          have hd3 := sr3.rd
          obtain ⟨q0, row, rfl, hq0, hrow', ho⟩ := hd3.sys.row hx
          have hrow : row ∈ S.mult := List.mem_of_getElem? hrow'
          have hv := ok.mv row hrow
          have hrr := ok.mr row hrow
          have sn : ∀ {b3 : Int}, IsMax (FirstR S row) L b3 → IsMax (fun m => (∃ w, (w, m) ∈ S.simple) ∨ ∃ r ∈ S.mult.take (t + 1), FirstR S r m) L (if b3 > b2 then b3 else b2) := fun h => by
            rw [take_snoc hrow']
            exact IsMax.snoc (F := fun r n => FirstR S r n) mx3 h
          have non : IsMax (FirstR S row) L 0 → IsMax (fun m => (∃ w, (w, m) ∈ S.simple) ∨ ∃ r ∈ S.mult.take (t + 1), FirstR S r m) L b2 := fun h => by
            have := sn h
            rw [mx3.le_of] at this
            exact this
          refine ⟨_, rfl, q0, _, 3, .bl row.uns, rfl, rfl, SqT.of ho, rfl, row.uns, rfl, ?_⟩
          cases hu : row.uns with
          | false => exact iteF ⟨b2, _, _, rfl, k3, sr3, non (firstR_none ok fun z => by rw [hu] at z; cases z.1)⟩
          | true =>
            refine iteT ⟨_, rfl, q0, _, 1, .int row.v, rfl, rfl, SqT.of ho, rfl, _, rfl, _, _, rfl, rfl, _, rfl, ?_⟩
            by_cases hL : row.v ≤ L
            · rw [decide_eq_true hL]
              refine iteT ⟨_, rfl, r.p, r.dx, _, rfl, hd3.ob, rfl, _, rfl, r.p, a.cRd, r.dx, _, _, rfl, hd3.ob, T.cl_cRd, T.n_cRd__words, fR_words, _, _, rfl, .inl (SqL.of hd3.la), ?_⟩
              rw [List.length_map]
              have hmin : (if L - row.v < row.rest then L - row.v else row.rest) ≤ lim n := by
                have := lim_rest (g := 1) (rest := row.rest) hl hv.1 (by omega) (by omega)
                rwa [Int.one_mul] at this
              refine ⟨_, rfl, q0, _, 4, .int row.rest, rfl, rfl, SqT.of ho, rfl, _, rfl, _, rfl, q0, _, 1, .int row.v, rfl, rfl, SqT.of ho, rfl, _, _, rfl, rfl, _, _, rfl, _, rfl, r, S, ws, ws.length, _, kd, rfl, sr3, Nat.le_refl _, hmin, by split <;> omega, fun f H4 hf k4 sr4 => ?_⟩
              rw [List.drop_length] at hf
              have nkq : q0 ≠ kd := fun z => by
                obtain ⟨kvs, h1, _⟩ := sr3.kn
                rw [z, h1] at ho
                cases ho
              have ho4 := k4 _ _ ho (by simpa using nkq)
              exact ⟨_, rfl, _, rfl, q0, _, 1, .int row.v, rfl, rfl, SqT.of ho4, rfl, _, rfl, _, _, rfl, rfl, _, _, rfl, _, _, _, rfl, k3.trans k4, sr4, sn (firstR_max ok hrow hu hL hf)⟩
            · rw [decide_eq_false hL]
              exact iteF ⟨b2, _, _, rfl, k3, sr3, non (firstR_none ok fun z => hL z.2)⟩) (by
          rintro σ H3 ⟨b2, v4, v5, rfl, k3, sr3, mx3⟩
          rw [List.length_map, hd.sys.ml, List.take_length] at mx3
          exact ⟨_, rfl, q b2 H3 mx3 k3 sr3⟩)
      refine ⟨D, _, _, rfl, rfl, SqL.of g2, fun h0 => ?_, fun m hm hmx => ?_⟩
      · refine ⟨_, rfl, r.p, a.cRd, r.dx, _, _, rfl, hd1.ob, T.cl_cRd, T.n_cRd__system, fR_system, r.s.p, a.cSys, r.s.dx, _, _, rfl, hd1.sys.ob, T.cl_cSys, T.n_cSys_multipliers, fS_mult, r.s.tm, rfl, ⟨_, SqT.of hd1.sys.tm⟩, loop 0 (.none fun n _ h2 ⟨w, hw'⟩ => ?_)⟩
        have : n ∈ (S.simple.map (·.2)).filter fun v => decide (v ≤ L) := List.mem_filter.mpr ⟨List.mem_map.mpr ⟨_, hw', rfl⟩, decide_eq_true h2⟩
        rw [h0] at this
        cases this
      · obtain ⟨h1, h2⟩ := List.mem_filter.mp hm
        obtain ⟨e, he, rfl⟩ := List.mem_map.mp h1
        refine ⟨_, rfl, r.p, a.cRd, r.dx, _, _, rfl, hd1.ob, T.cl_cRd, T.n_cRd__system, fR_system, r.s.p, a.cSys, r.s.dx, _, _, rfl, hd1.sys.ob, T.cl_cSys, T.n_cSys_multipliers, fS_mult, r.s.tm, rfl, ⟨_, SqT.of hd1.sys.tm⟩, loop e.2 (.inr ⟨(ok.sv e he).1, of_decide_eq_true h2, ⟨e.1, he⟩, fun n hn ⟨w, hw'⟩ => ?_⟩)⟩
        exact hmx n (List.mem_filter.mpr ⟨List.mem_map.mpr ⟨_, hw', rfl⟩, decide_eq_true hn⟩)
end
end K30
set_option Elab.async false
set_option linter.all false
set_option maxRecDepth 100000
set_option maxHeartbeats 2000000
/-! K30Dict: d.pop(k) with a tuple as the key; sorted of a dict with any number of ints as keys. -/
namespace K30
open PySem PySem.Spec PyProof.Rows L2 L2H
section
variable {K : Type} [DecidableEq K] {prog : Program} {w : World} {knd : HeapKind prog w K}
/-- the key is there, no second argument -/
theorem popTup_there {d b : Addr} {k : K} : MeetsIn prog w (Builtin.«dict.pop» ⟨[.ref d, .ref b], []⟩) (fun A R s => ∃ xs p, knd.room A.in1 ∧ knd.is s.heap k b ∧ s.heap.DictOfH knd d xs ∧ xs.length ≤ sizeLine ∧ atKey xs k = some p ∧
    ∀ h' tk, h'.DictOfH knd d (DT.dropH xs k) → Heap.SameBut d s.heap h' → R (.ok (.ret p.2)) { s with heap := h', toks := tk }) := by
  refine .of_wp ?_
  rintro A R s ⟨xs, p, room, isk, dd, small, there, done⟩
  obtain ⟨o, es, ep, ho, hc, hdat, he, his, hn⟩ := id dd
  have some_ : es.isEmpty = false := by
    cases hem : es.isEmpty with
    | false => rfl
    | true =>
      have e0 : es.size = 0 := by simpa using hem
      have e1 : xs = [] := List.length_eq_zero_iff.mp (by rw [← size_of_entries he, e0])
      rw [e1] at there
      cases there
  unfold Builtin.«dict.pop»
  refine wpAny_bind ?_
  unfold Builtin.Dict.keyAndDefault
  refine wpAny_bind (wpAny_notOrdered_dict dd.typeIs ?_)
  show wpAny _ _ (pure (d, Value.ref b, none)) _ _ s
  refine wpAny_pure ?_
  have part : (keyPart (Value.ref b)).isSome = false := rfl
  simp only [part, Bool.false_eq_true, if_false]
  refine wpAny_bind (wpAny_dictEntries ho hdat (wpAny_bind (wpAny_pure ?_)))
  rw [some_]
  simp only [Bool.false_eq_true, if_false]
  refine wpAny_bind (DT.takeH room isk dd small (fun no => ?_) fun p' e hp hev h' hm' hs' => ?_)
  · rw [there] at no
    cases no
  · rw [there] at hp
    cases hp
    simp only [Option.isNone_some, Bool.false_eq_true, if_false]
    exact wpAny_bind (wpAny_letGo (wpAny_pure ⟨e.val, rfl, hev ▸ done h' _ hm' hs'⟩))
end
section
variable {X : Cx}
def rPopT1 : V → List V → Hp → VK → Prop := fun x xs H Q => ∃ (a : Addr) (kvs : List (List L2.Key × V)) (k : List L2.Key) (b : Addr) (v : V), x = .ref a ∧ xs = [.ref b] ∧ H a = some (.dT kvs) ∧ H b = some (.tup (k.map kV)) ∧ valV kvs k = some v ∧ Q v (upd H a (.dT (dropK kvs k)))
theorem mt_pop1T (hu : X.A.units + 1 < cLine) : MtR X "dict.pop" rPopT1 := by
  intro pins s σ H x xs v us Q I rx rxs h
  obtain ⟨a, kvs, k, b, y, rfl, rfl, ha, hb, hv, q⟩ := h
  cases rx
  obtain ⟨u1, rfl, r1⟩ := vals1 rxs
  cases r1
  obtain ⟨z, hd, xs', rel, dd⟩ := dt_of I.hok ha
  have hz : xs'.length ≤ sizeLine := by rw [← Paired.length rel]; exact z
  have r := rel.val k
  rw [hv] at r
  obtain ⟨p, hp, rv⟩ : ∃ p, atKey xs' k = some p ∧ RelV y p.2 := by
    cases ep : atKey xs' k with
    | none =>
      rw [ep] at r
      exact (show False from r).elim
    | some p =>
      rw [ep] at r
      exact ⟨p, rfl, r⟩
  refine call_meetsIn PySem.F.slot_dict_pop dd.typeIs PySem.F.entry_dict_pop (PySem.F.args_dict_pop_2 _ _) (popTup_there (knd := tupleKind (mixKind X.prog X.w)) (k := k)) ⟨xs', p, tupleKind_room_in1 hu, key_of I.hok hb, dd, hz, hp, fun h' tk dd' hs => ?_⟩
  obtain ⟨o, es, ep, hq, h2, h3, h4, _, h5⟩ := dd'
  have I2 : Inv X pins σ (upd H a (.dT (dropK kvs k))) { s with heap := h', toks := tk } := by
    refine d_write I (by rw [ha]; trivial) hs ⟨o, hq⟩ ⟨Nat.le_trans (dropK_le kvs k) z, hd, _, (L2.DX.KT_drop k rel).keeps fun c ys ec => ?_, o, es, ep, hq, h2, h3, h4, h5⟩
    rw [upd_ne (ne_of ec ha (fun z => nomatch z))]
    exact ec
  exact ⟨y, _, I2, rv, q⟩
/-- sorted(d), ints as keys, any number of them -/
def rSortedDI : List V → Hp → VK → Prop := fun xs H Q => ∃ (a : Addr) (kvs : List (L2.Key × V)) (ks : List Int), xs = [.ref a] ∧ H a = some (.dK kvs) ∧ kvs.map (·.1) = ks.map Sum.inl ∧
  ∀ (ys : List Int) (p : Addr), ys.Perm ks → ys.Pairwise (· ≤ ·) → H p = none → Q (.ref p) (upd H p (.lst (ys.map V.int)))
theorem cr_sortedDI (hcalm : X.calm = true) : CallR X (.builtin "sorted") rSortedDI := by
  intro pins s σ H xs us Q I r h
  obtain ⟨a, kvs, ks, rfl, hd, hks, q⟩ := h
  obtain ⟨u, rfl, rx⟩ := vals1 r
  cases rx
  obtain ⟨z, lo, vs, rel, dd⟩ := dk_rd I.hok (.inl hd)
  obtain ⟨ep, hat⟩ := dd.dictAt
  have hkeys : vs.map (·.1) = ks.map Sum.inl := rel.keys.symm.trans hks
  have hl : vs.length = ks.length := by
    rw [← List.length_map (f := (·.1)) (as := vs), hkeys, List.length_map]
  have hz : vs.length ≤ sizeLine := by rw [← rel.length]; exact z
  refine Calls.call_function_entry kind_sorted plain_sorted entry_sorted (args_sorted1 _) ?_
  unfold Builtin.«sorted»
  refine wpAny_bind (m := checkCount "sorted" 1 1 _) (wpAny_pure ?_)
  refine wpAny_bind (PySem.W.kdu_collect (A := X.A.in1) (PySem.W.kdl_dict (knd := mixKind X.prog X.w) (kvs := vs) (ep := ep) lo) (I.ok.hd hcalm) hat hz fun h' tk acc hk hacc => ?_)
  have hal : acc.toList.length = ks.length := by rw [Array.length_toList, hacc.1, hl]
  have hI : IntsAre acc.toList ks := by
    refine ints_each hal fun j v e => ?_
    obtain ⟨k, x, e1, e2⟩ := hacc.2 j v (by rw [← Array.getElem?_toList]; exact e)
    have e3 : (ks.map Sum.inl : List L2.Key)[j]? = some k := by
      rw [← hkeys, List.getElem?_map, e1]
      rfl
    rw [List.getElem?_map] at e3
    obtain ⟨y, e4, rfl⟩ := Option.map_eq_some_iff.mp e3
    rcases keyIs_shape (show keyIs (Sum.inl y) v = true from e2) with ⟨i, t, ek, ev⟩ | ⟨i, t, ek, ev⟩
    · cases ek
      exact ⟨y, t, e4, ev⟩
    · cases ek
  have I1 : Inv X pins σ H { s with heap := h', toks := tk } := I.kept hk
  have hz2 : acc.toList.length ≤ sizeLine := by rw [hal, ← hl]; exact hz
  refine wpAny_bind (wpAny_newList ?_ hz2)
  have hoL : (h'.push (seqObj "list" acc.toList.toArray 0)).get? h'.objs.size = some (seqObj "list" acc.toList.toArray 0) := Heap.get?_push_size _ rfl
  show wpAny _ _ _ _ _ { s with heap := h'.push (seqObj "list" acc.toList.toArray 0), toks := tk }
  refine wpAny_bind (wpAny_holding (wpAny_call_entry slot_list_sort ⟨_, hoL, rfl⟩ entry_list_sort
    (SrtO.list_sort_ord (s := { s with heap := h'.push (seqObj "list" acc.toList.toArray 0), toks := tk }) SrtO.swo_int hoL hz2 (fun h2 => SrtO.ints_sortable hI h2) fun out o1 o2 => ⟨.none, rfl, ?_⟩) (args_list_sort _)))
  obtain ⟨k1, k2, k3⟩ := SrtO.ints_out hI o1 o2
  obtain ⟨e', he'⟩ := sortedHeap_at (vs := acc.toList) (out := out.toArray) hoL
  have hlen : ((out.map SrtO.iv).map V.int).length ≤ sizeLine := by
    rw [List.length_map, k2.length_eq, ← hl]
    exact hz
  refine wpAny_pure ⟨_, rfl, .ref h'.objs.size, upd H h'.objs.size (.lst ((out.map SrtO.iv).map V.int)), I1.laid (t' := tk) (fun b u e => ?_) (Nat.le_refl _) ⟨hlen, out, e', vals_of_ints k1, he'⟩, rfl, q _ _ k2 k3 (I1.hok.fresh (Nat.le_refl _))⟩
  have hb : b < h'.objs.size := Heap.lt_size e
  rw [sortedHeap_old (Nat.ne_of_lt hb) (by rw [size_push']; exact Nat.lt_succ_of_lt hb)]
  exact Heap.get?_push_of_some _ e
end
end K30
set_option Elab.async false
set_option linter.all false
set_option maxRecDepth 100000
set_option maxHeartbeats 4000000
/-! K30D: the greatest possible number up to a limit. -/
namespace K30
open PySem PySem.Spec PyProof.Rows L2 L2H
theorem nat_box : ∀ (N : Nat) (l : List Nat), l.Nodup → (∀ x ∈ l, x < N) → l.length ≤ N
  | 0, [], _, _ => Nat.le_refl _
  | 0, x :: l, _, h => absurd (h x List.mem_cons_self) (Nat.not_lt_zero _)
  | N + 1, l, nd, h => by
    by_cases hm : N ∈ l
    · have h1 := nat_box N (l.erase N) (nd.erase N) fun x hx => by
        have h2 := (List.Nodup.mem_erase_iff nd).mp hx
        have := h x h2.2
        have := h2.1
        omega
      rw [List.length_erase_of_mem hm] at h1
      omega
    · have h1 := nat_box N l nd fun x hx => by
        have := h x hx
        by_cases e : x = N
        · exact absurd (e ▸ hx) hm
        · omega
      omega
theorem nd_put {κ : Type} [DecidableEq κ] {kvs : List (κ × V)} {k : κ} (v : V) (hn : (kvs.map (·.1)).Nodup) : ((putK kvs k v).map (·.1)).Nodup := by
  cases e : valV kvs k with
  | none => exact nd_putK v hn e
  | some x =>
    have h : (kvs.any fun kv => decide (kv.1 = k)) = true := by rw [valV_any, e]; rfl
    have : (putK kvs k v).map (·.1) = kvs.map (·.1) := by
      unfold putK
      rw [if_pos h, List.map_map]
      refine List.map_congr_left fun p _ => ?_
      show (if p.1 = k then (p.1, v) else p).1 = p.1
      split <;> rfl
    rw [this]
    exact hn
def kcode : List Key → Nat
  | [.inl i, .inl L] => i.toNat * 1500000 + (L - 1).toNat
  | _ => 0
theorem KnownOk.len {S : SyS} {ws : List Str} {kvs : List (List Key × V)} (h : KnownOk S ws kvs) (hw : ws.length ≤ 6) : kvs.length < sizeLine := by
  have hk : ∀ k ∈ kvs.map (·.1), ∃ (i : Nat) (L : Int), k = [.inl i, .inl L] ∧ i ≤ 6 ∧ 1 ≤ L ∧ L ≤ 1500000 := fun k hk => by
    cases e : valV kvs k with
    | none => exact absurd hk (valV_not e)
    | some v =>
      obtain ⟨i, L, x, e1, _, h1, h2, h3, _⟩ := h.ok k v e
      exact ⟨i, L, e1, by omega, h2, h3⟩
  have h1 : ((kvs.map (·.1)).map kcode).Nodup := by
    refine List.Pairwise.map kcode ?_ (List.Pairwise.imp_of_mem (R := fun a b => a ≠ b) (S := fun a b => kcode a ≠ kcode b) ?_ h.nd)
    · exact fun _ _ z => z
    · intro a b ha hb hne e
      obtain ⟨i, L, rfl, a1, a2, a3⟩ := hk a ha
      obtain ⟨j, M, rfl, b1, b2, b3⟩ := hk b hb
      have e' : (i : Int).toNat * 1500000 + (L - 1).toNat = (j : Int).toNat * 1500000 + (M - 1).toNat := e
      refine hne ?_
      have : i = j := by omega
      have : L = M := by omega
      subst_vars
      rfl
  have h2 := nat_box 10500000 _ h1 fun x hx => by
    obtain ⟨k, hk1, rfl⟩ := List.mem_map.mp hx
    obtain ⟨i, L, rfl, a1, a2, a3⟩ := hk k hk1
    show (i : Int).toNat * 1500000 + (L - 1).toNat < 10500000
    omega
  rw [List.length_map, List.length_map] at h2
  exact Nat.lt_of_le_of_lt h2 (by decide)
theorem KnownOk.put {S : SyS} {ws : List Str} {kvs : List (List Key × V)} (h : KnownOk S ws kvs) {i : Nat} {L x : Int} (h1 : i ≤ ws.length) (h2 : 1 ≤ L) (h3 : L ≤ 1500000) (h4 : IsMax (Poss S (ws.drop i)) L x) :
    KnownOk S ws (putK kvs [.inl (i : Int), .inl L] (.int x)) where
  nd := nd_put _ h.nd
  ok k v e := by
    rw [valV_put] at e
    split at e
    · rename_i z
      exact ⟨i, L, x, z, (Option.some.inj e).symm, h1, h2, h3, h4⟩
    · exact h.ok k v e
theorem not_begun {S : SyS} (ok : S.Ok) {w : Str} {v n : Int} (h : (w, v) ∈ S.simple) : ¬ Begun S [w] n := by
  rintro ⟨r, pc, u', g, hr, hu, _⟩
  have hw : w = r.w := by
    cases pc with
    | nil => exact (List.cons.inj hu).1
    | cons x pc =>
      have := congrArg List.length hu
      simp at this
  have := (List.nodup_append.mp ok.nd).2.2 w (List.mem_map.mpr ⟨_, h, rfl⟩) r.w (List.mem_map.mpr ⟨r, hr, rfl⟩)
  exact this hw
theorem simple_uniq {S : SyS} (ok : S.Ok) {w : Str} {v v' : Int} (h : (w, v) ∈ S.simple) (h' : (w, v') ∈ S.simple) : v = v' := by
  have nd := (List.nodup_append.mp ok.nd).1
  obtain ⟨i, hi, e⟩ := List.mem_iff_getElem.mp h
  obtain ⟨j, hj, e'⟩ := List.mem_iff_getElem.mp h'
  have : (S.simple.map (·.1))[i]'(by rw [List.length_map]; exact hi) = (S.simple.map (·.1))[j]'(by rw [List.length_map]; exact hj) := by
    rw [List.getElem_map, List.getElem_map, e, e']
  have := (List.getElem_inj nd).mp this
  subst this
  rw [e] at e'
  exact (Prod.mk.inj e').2
/-- the words that are there make up the number's beginning, or its only word is simple -/
def Ahead (S : SyS) (u : List Str) (n : Int) : Prop := Begun S u n ∨ ∃ w, u = [w] ∧ (w, n) ∈ S.simple
theorem ahead_long {S : SyS} {u : List Str} {L b : Int} (h : IsMax (Begun S u) L b) (hu : ∀ w, (∃ n, (w, n) ∈ S.simple) → u ≠ [w]) : IsMax (Ahead S u) L b :=
  h.congr fun n => ⟨.inl, fun z => z.elim id fun ⟨w, e, z2⟩ => absurd e (hu w ⟨n, z2⟩)⟩
theorem ahead_one {S : SyS} (ok : S.Ok) {w : Str} {v L b : Int} (h : IsMax (Begun S [w]) L b) (hv : (w, v) ∈ S.simple) : IsMax (Ahead S [w]) L (if v ≤ L then v else b) := by
  have hn := (ok.sv _ hv).1
  have only : ∀ n, Ahead S [w] n ↔ n = v := fun n => by
    constructor
    · rintro (z | ⟨w', e, z⟩)
      · exact absurd z (not_begun ok hv)
      · cases e
        exact simple_uniq ok z hv
    · rintro rfl
      exact .inr ⟨w, rfl, hv⟩
  have hb : b = 0 := by
    rcases h with ⟨rfl, _⟩ | ⟨_, _, z, _⟩
    · rfl
    · exact absurd z (not_begun ok hv)
  subst hb
  by_cases hl : v ≤ L
  · rw [if_pos hl]
    exact .inr ⟨hn, hl, (only v).mpr rfl, fun n _ z => by rw [(only n).mp z]; exact Int.le_refl _⟩
  · rw [if_neg hl]
    exact .none fun n _ h2 z => by
      rw [(only n).mp z] at h2
      exact hl h2
theorem topIs_none {r : Rw} {L : Int} (hv : 2 ≤ r.v) (hm : r.most = none) : TopIs r L (L / r.v) := by
  refine ⟨(fun m h => by rw [hm] at h; cases h), Int.ediv_mul_le L (by omega), fun g _ h => (Int.le_ediv_iff_mul_le (by omega)).mpr h⟩
theorem topIs_some {r : Rw} {L c : Int} (hv : 2 ≤ r.v) (hm : r.most = some c) : TopIs r L (if L / r.v < c then L / r.v else c) := by
  have h1 : L / r.v * r.v ≤ L := Int.ediv_mul_le L (by omega)
  refine ⟨fun m h => ?_, ?_, fun g h2 h3 => ?_⟩
  · rw [hm] at h
    cases h
    split <;> omega
  · split
    · exact h1
    · rename_i z
      have : c * r.v ≤ L / r.v * r.v := Int.mul_le_mul_of_nonneg_right (by omega) (by omega)
      omega
  · have h4 := h2 c hm
    have h5 : g ≤ L / r.v := (Int.le_ediv_iff_mul_le (by omega)).mpr h3
    split <;> omega
theorem TopIs.lims {r : Rw} {L top : Int} {n : Nat} (h : TopIs r L top) (hv : 2 ≤ r.v) (hl : L ≤ lim (n + 1)) (hl2 : L ≤ 1500000) : top ≤ lim n ∧ top ≤ 1500000 := by
  refine ⟨lim_half hl hv h.2.1 (lim_nn n), ?_⟩
  by_cases h0 : 1 ≤ top
  · have := (gv_ge h0 hv).2
    have := h.2.1
    omega
  · omega
theorem next_of {D : Ends} {σ : L2.St} {H : Hp} (h : D.nx σ H) : tNext D σ H := h
theorem seq_gen {X Y : TS} {D : Ends} {σ : L2.St} {H : Hp} (M : L2.St → Hp → Prop) (h : ∀ R : L2.St → Hp → Prop, (∀ σ' H', M σ' H' → R σ' H') → X { D with nx := R } σ H) (h2 : ∀ σ' H', M σ' H' → Y D σ' H') : tSeq X Y D σ H := h (Y D) h2
theorem Sr.put {a : Ad} {H : Hp} {r : RA} {S : SyS} {ws : List Str} {kd : Addr} {kvs kvs' : List (List Key × V)} (sr : Sr a H r S ws kd) (hk : H kd = some (.dT kvs)) (ko : KnownOk S ws kvs') :
    Kp [kd] H (upd H kd (.dT kvs')) ∧ Sr a (upd H kd (.dT kvs')) r S ws kd := by
  have k : Kp [kd] H (upd H kd (.dT kvs')) := fun b o e hb => by
    rw [upd_ne (by simpa using hb)]
    exact e
  exact ⟨k, sr.rd.kp k hk sr.ne, sr.ok, sr.hw, ⟨kvs', upd_same, ko⟩, sr.ne⟩
/-- what is possible without a word to come that multiplies all of u -/
def Base0 (S : SyS) (u : List Str) (n : Int) : Prop := (u = [] ∧ ((∃ w, (w, n) ∈ S.simple) ∨ ∃ r ∈ S.mult, FirstR S r n)) ∨ (u ≠ [] ∧ Ahead S u n)
theorem poss_iff {S : SyS} {u : List Str} (n : Int) : Poss S u n ↔ Base0 S u n ∨ ∃ r ∈ S.mult, LaterR S u r n := by
  by_cases h : u = []
  · subst h
    rw [poss_nil_iff]
    simp [Base0]
  · rw [poss_cons_iff h]
    simp [Base0, h, Ahead]
theorem base_nil {S : SyS} {L b : Int} (h : IsMax (fun m => (∃ w, (w, m) ∈ S.simple) ∨ ∃ r ∈ S.mult, FirstR S r m) L b) : IsMax (Base0 S []) L b := h.congr fun n => by simp [Base0]
theorem base_cons {S : SyS} {u : List Str} {L b : Int} (hu : u ≠ []) (h : IsMax (Ahead S u) L b) : IsMax (Base0 S u) L b := h.congr fun n => by simp [Base0, hu]
section
variable {P : Program} {w : World} {K : PySem.W.Frag} {mg : Str → Option Value} {base : Heap} {a : Ad}
theorem g_atMost_step {k n : Nat} {spA spF spB : Sp} (T : Txt K mg a) (hk1 : 1 ≤ k) (G_first : FnG P w K mg base k a.f_first a.d_first ["self", "limit", "known"] spF)
    (G_begun : FnG P w K mg base k a.f_begun a.d_begun ["self", "start", "limit", "known"] spB) (G_atMost : FnG P w K mg base k a.f_atMost a.d_atMost ["self", "start", "limit", "known"] spA)
    (G_isSpoken' : FnG P w K mg base 1 a.f_isSpoken a.d_isSpoken ["row", "count"] sp_isSpoken) (G_simpleValue' : FnG P w K mg base 1 a.f_simpleValue a.d_simpleValue ["self", "word"] (sp_simpleValue a))
    (hsp : n = 0 ∨ ∃ m, n = m + 1 ∧ spA = sp_atMost a m ∧ spF = sp_first a m ∧ spB = sp_begun a m) :
    FnG P w K mg base (k + 1) a.f_atMost a.d_atMost ["self", "start", "limit", "known"] (sp_atMost a n) := by
  have G_isSpoken := G_isSpoken'.mono (k := k) hk1
  have G_simpleValue := G_simpleValue'.mono (k := k) hk1
  refine okG T.F_atMost sc_atMost (fun vs H Q E h => ?_) (fun c pn cdv A outer s H vs Q E hc hr h => ?_)
  · obtain ⟨r, S, ws, i, L, kd, rfl, _⟩ := h
    rfl
  · obtain ⟨r, S, ws, i, L, kd, rfl, sr, hi, hl, hl2, q⟩ := h
    refine ⟨_, (pss_cons (ps_if (pt_cmpR op_lt (pv 2) pe_int (nomark _)) (pss_one (ps_ret pe_int)) pss_nil)
      (pss_cons (ps_if (pt_cmp (pc_dnotin (huH hr) (pe_tup (pa_cons (pv 1) (pa_cons (pv 2) pa_nil))) (pv 3))) (pss_cons (ps_set (i := 4) sc_atMost.nd rfl (Or.inl rfl) (pe_callB (lenSeq K) (by rfl) T.z_len (by decide +kernel) (pa_cons (fldK K (pv 0) rfl) pa_nil)))
      (pss_cons (ps_if (pt_cmpR op_eq (pv 1) (pv 4) (nomark _)) (pss_one (ps_set (i := 5) sc_atMost.nd rfl (Or.inl rfl) (peg_meth hc (pv 0) T.cl_cRd T.e_first G_first (hr.mono (by omega)) T.b_first (pa_cons (pv 2) (pa_cons (pv 3) pa_nil))))) (pss_cons (ps_set (i := 5) sc_atMost.nd rfl (Or.inl rfl) (peg_meth hc (pv 0) T.cl_cRd T.e_begun G_begun (hr.mono (by omega)) T.b_begun (pa_cons (pv 1) (pa_cons (pv 2) (pa_cons (pv 3) pa_nil)))))
      (pss_one (ps_if (pt_cmpR op_eq (pv 4) (pe_op op_add (pv 1) pe_int) (nomark _)) (pss_cons (ps_set (i := 6) sc_atMost.nd rfl (Or.inl rfl) (peg_meth hc (fldK K (pv 0) rfl) T.cl_cSys T.e_simpleValue G_simpleValue (hr.mono (by omega)) T.b_simpleValue (pa_cons (pe_ix (ixL K) (fldK K (pv 0) rfl) (pv 1) (fun _ _ => rfl)) pa_nil)))
      (pss_one (ps_set (i := 5) sc_atMost.nd rfl (Or.inl rfl) (pe_ifExp (PW.pt (pw_and (pt_cmpR op_notN (pv 6) pe_non (nomark _)) (pw_and1 (pt_cmpR op_le (pv 6) (pv 2) (nomark _))))) (pv 6) (pv 5))))) pss_nil))))
      (pss_cons (psg_for PassesOwn.never hc (pigT K (fldK K (fldK K (pv 0) rfl) rfl)) (pg_name (i := 7) sc_atMost.nd rfl (.inl rfl))
      (pss_cons (ps_set (i := 8) sc_atMost.nd rfl (Or.inl rfl) (pe_ifExp (pt_cmpR op_isN (pe_ix (ixT K) (pv 7) pe_int (fun _ _ => rfl)) pe_non (nomark _)) (pe_op op_fdiv (pv 2) (pe_ix (ixT K) (pv 7) pe_int (fun _ _ => rfl))) (pe_callB (cg_min2 hc) (by rfl) T.z_min (by decide +kernel) (pa_cons (pe_ix (ixT K) (pv 7) pe_int (fun _ _ => rfl)) (pa_cons (pe_op op_fdiv (pv 2) (pe_ix (ixT K) (pv 7) pe_int (fun _ _ => rfl))) pa_nil)))))
      (pss_cons (ps_set (i := 9) sc_atMost.nd rfl (Or.inl rfl) (peg_meth hc (pv 0) T.cl_cRd T.e_atMost G_atMost (hr.mono (by omega)) T.b_atMost (pa_cons (pv 1) (pa_cons (pv 8) (pa_cons (pv 3) pa_nil)))))
      (pss_one (ps_if (pt_val (peg_call hc G_isSpoken (hr.mono (by omega)) (by rfl) T.m_isSpoken T.F_isSpoken.kp T.b_isSpoken (pa_cons (pv 7) (pa_cons (pv 9) pa_nil)))) (pss_cons (ps_set (i := 10) sc_atMost.nd rfl (Or.inl rfl) (peg_meth hc (pv 0) T.cl_cRd T.e_atMost G_atMost (hr.mono (by omega)) T.b_atMost (pa_cons (pv 4) (pa_cons (pe_callB (cg_min2 hc) (by rfl) T.z_min (by decide +kernel) (pa_cons (pe_ix (ixT K) (pv 7) pe_int (fun _ _ => rfl)) (pa_cons (pe_op op_sub (pv 2) (pe_op op_mul (pv 9) (pe_ix (ixT K) (pv 7) pe_int (fun _ _ => rfl)))) pa_nil))) (pa_cons (pv 3) pa_nil)))))
      (pss_one (ps_set (i := 5) sc_atMost.nd rfl (Or.inl rfl) (pe_callB (cg_max2 hc) (by rfl) T.z_max (by decide +kernel) (pa_cons (pv 5) (pa_cons (pe_op op_add (pe_op op_mul (pv 9) (pe_ix (ixT K) (pv 7) pe_int (fun _ _ => rfl))) (pv 10)) pa_nil)))))) pss_nil)))))
      (pss_one (ps_dput (huH hr) (pv 3) (pe_tup (pa_cons (pv 1) (pa_cons (pv 2) pa_nil))) (pv 5) rfl))))) pss_nil)
      (pss_one (ps_ret (pe_dget (huH hr) (pv 3) (pe_tup (pa_cons (pv 1) (pa_cons (pv 2) pa_nil))) (fun _ _ => rfl)))))), ?_⟩
    refine ⟨_, rfl, _, _, rfl, rfl, _, rfl, ?_⟩
    by_cases h1 : L < 1
    · rw [decide_eq_true h1]
      exact iteT (q 0 H (.none fun n a b => by omega) (.refl _ _) sr)
    rw [decide_eq_false h1]
    refine iteF (next_of ?_)
    dsimp only
    obtain ⟨m, rfl, rfl, rfl, rfl⟩ : ∃ m, n = m + 1 ∧ spA = sp_atMost a m ∧ spF = sp_first a m ∧ spB = sp_begun a m := by
      rcases hsp with h | h
      · subst h
        have : lim 0 = 0 := rfl
        omega
      · exact h
    have ok := sr.ok
    have hw := sr.hw
    obtain ⟨key, hkey⟩ : ∃ key : List Key, key = [.inl (i : Int), .inl L] := ⟨_, rfl⟩
    refine seq_gen (fun σ' H' => ∃ x v4 v5 v6 v7 v8 v9 v10, σ' = [some (.ref r.p), some (.int i), some (.int L), some (.ref kd), v4, v5, v6, v7, v8, v9, v10] ∧ Kp [kd] H H' ∧ Sr a H' r S ws kd ∧ IsMax (Poss S (ws.drop i)) L x ∧ ∃ kvs, H' kd = some (.dT kvs) ∧ valV kvs key = some (.int x)) (fun R hR => ?_) ?_
    · obtain ⟨kvs, hk, ko⟩ := sr.kn
      refine ⟨_, rfl, _, rfl, z2, fun p hp => ⟨_, rfl, kd, valV kvs key, rfl, DGet.t ((same_upd _ hp) _ _ hk) (hkey ▸ upd_same), _, rfl, ?_⟩⟩
      cases hv : valV kvs key with
      | some v =>
        obtain ⟨i', L', x, e1, rfl, _, _, _, mx⟩ := ko.ok _ _ hv
        have e3 : i' = i ∧ L' = L := by
          rw [hkey] at e1
          injection e1 with e1 e2
          injection e2 with e2 _
          injection e1 with e1
          injection e2 with e2
          exact ⟨by omega, e2.symm⟩
        obtain ⟨rfl, rfl⟩ := e3
        exact iteF (hR _ _ ⟨x, _, _, _, _, _, _, _, rfl, .of_same (same_upd _ hp), sr.same (same_upd _ hp), mx, kvs, (same_upd _ hp) _ _ hk, hv⟩)
      | none =>
        have k1 : Kp [kd] H (upd H p (.tup [.int i, .int L])) := .of_same (same_upd _ hp)
        have sr1 : Sr a (upd H p (.tup [.int i, .int L])) r S ws kd := sr.same (same_upd _ hp)
        have hd1 := sr1.rd
        refine iteT ⟨_, rfl, r.p, a.cRd, r.dx, _, _, rfl, hd1.ob, T.cl_cRd, T.n_cRd__words, fR_words, _, _, rfl, .inl (SqL.of hd1.la), ?_⟩
        rw [List.length_map]
        dsimp only [gName]
        refine seq_gen (fun σ' H' => ∃ b v6, σ' = [some (.ref r.p), some (.int i), some (.int L), some (.ref kd), some (.int ws.length), some (.int b), v6, none, none, none, none] ∧ Kp [kd] H H' ∧ Sr a H' r S ws kd ∧ IsMax (Base0 S (ws.drop i)) L b) (fun R2 hR2 => ?_) ?_
        · refine ⟨_, rfl, _, rfl, rfl, _, rfl, ?_⟩
          by_cases he : i = ws.length
          · rw [dint_t (by omega)]
            refine iteT ⟨_, rfl, r.p, r.dx, _, rfl, hd1.ob, rfl, _, rfl, _, rfl, r, S, ws, L, kd, rfl, sr1, hl, hl2, fun b H2 mb k2 sr2 => hR2 _ _ ⟨b, _, rfl, k1.trans k2, sr2, ?_⟩⟩
            rw [he, List.drop_length]
            exact base_nil mb
          · rw [dint_f (by omega)]
            have hu : ws.drop i ≠ [] := fun z => by
              have := List.drop_eq_nil_iff.mp z
              omega
            refine iteF ⟨_, rfl, r.p, r.dx, _, rfl, hd1.ob, rfl, _, rfl, _, rfl, _, rfl, r, S, ws, i, L, kd, rfl, sr1, hi, hl, hl2, fun b H2 mb k2 sr2 => ?_⟩
            refine ⟨_, rfl, _, rfl, _, _, rfl, rfl, rfl, _, rfl, ?_⟩
            by_cases h2 : i + 1 = ws.length
            · rw [dint_t (by omega)]
              have hd2 := sr2.rd
              have hwi : ws[i]? = some ws[i] := List.getElem?_eq_getElem (by omega)
              have hvi : (ws.map V.str)[i]? = some (.str ws[i]) := by rw [List.getElem?_map, hwi]; rfl
              have hu1 : ws.drop i = [ws[i]] := by
                rw [List.drop_eq_getElem_cons (by omega), List.drop_of_length_le (by omega)]
              rw [hu1] at mb
              refine iteT ⟨_, rfl, r.p, a.cRd, r.dx, _, _, rfl, hd2.ob, T.cl_cRd, T.n_cRd__system, fR_system, r.s.p, r.s.dx, _, rfl, hd2.sys.ob, rfl, _, rfl, r.p, a.cRd, r.dx, _, _, rfl, hd2.ob, T.cl_cRd, T.n_cRd__words, fR_words, _, rfl, r.la, _, ((i : Nat) : Int), .str ws[i], rfl, rfl, SqL.of hd2.la, atI_nat hvi, r.s, S, ws[i], rfl, hd2.sys, fun e he ew => ?_, fun hno => ?_⟩
              · have hes : (ws[i], e.2) ∈ S.simple := by rw [← ew]; exact he
                have mx := ahead_one ok mb hes
                refine ⟨_, rfl, rfl, _, rfl, iteT ⟨_, rfl, _, rfl, _, _, rfl, rfl, _, rfl, ?_⟩⟩
                by_cases h3 : e.2 ≤ L
                · rw [decide_eq_true h3]
                  rw [if_pos h3] at mx
                  exact iteT ⟨_, rfl, hR2 _ _ ⟨_, _, rfl, k1.trans k2, sr2, base_cons hu (hu1 ▸ mx)⟩⟩
                · rw [decide_eq_false h3]
                  rw [if_neg h3] at mx
                  exact iteF ⟨_, rfl, hR2 _ _ ⟨_, _, rfl, k1.trans k2, sr2, base_cons hu (hu1 ▸ mx)⟩⟩
              · refine ⟨_, rfl, rfl, _, rfl, iteF (iteF ⟨_, rfl, hR2 _ _ ⟨_, _, rfl, k1.trans k2, sr2, base_cons hu (hu1 ▸ ahead_long mb fun w' ⟨n', hn'⟩ e => ?_)⟩⟩)⟩
                exact hno _ hn' (List.cons.inj e).1.symm
            · rw [dint_f (by omega)]
              refine iteF (hR2 _ _ ⟨_, _, rfl, k1.trans k2, sr2, base_cons hu (ahead_long mb fun w' _ e => ?_)⟩)
              have := congrArg List.length e
              rw [List.length_drop, List.length_singleton] at this
              omega
        · rintro σ' H' ⟨b, v6, rfl, k2, sr2, mb⟩
          have hd2 := sr2.rd
          refine seq_gen (fun σ' H' => ∃ b v6 v7 v8 v9 v10, σ' = [some (.ref r.p), some (.int i), some (.int L), some (.ref kd), some (.int ws.length), some (.int b), v6, v7, v8, v9, v10] ∧ Kp [kd] H H' ∧ Sr a H' r S ws kd ∧ IsMax (Poss S (ws.drop i)) L b) (fun R2 hR2 => ?_) ?_
          · refine ⟨_, rfl, r.p, a.cRd, r.dx, _, _, rfl, hd2.ob, T.cl_cRd, T.n_cRd__system, fR_system, r.s.p, a.cSys, r.s.dx, _, _, rfl, hd2.sys.ob, T.cl_cSys, T.n_cSys_multipliers, fS_mult, r.s.tm, rfl, ⟨_, SqT.of hd2.sys.tm⟩, for_tup (K := K) (a := r.s.tm) (xs := r.s.ms.map V.ref)
              (fun t σ H3 => ∃ b2 v6 v7 v8 v9 v10, σ = [some (.ref r.p), some (.int i), some (.int L), some (.ref kd), some (.int ws.length), some (.int b2), v6, v7, v8, v9, v10] ∧ Kp [kd] H H3 ∧ Sr a H3 r S ws kd ∧
                IsMax (fun n => Base0 S (ws.drop i) n ∨ ∃ r ∈ S.mult.take t, LaterR S (ws.drop i) r n) L b2)
              ⟨b, v6, none, none, none, none, rfl, k2, sr2, mb.congr fun n => by simp⟩ (fun t σ H3 _ ⟨_, _, _, _, _, _, _, _, sr3, _⟩ => SqT.of sr3.rd.sys.tm) ?_ ?_⟩
            · rintro t x σ H3 hx ⟨b2, v6, v7, v8, v9, v10, rfl, k3, sr3, mx3⟩
              have hd3 := sr3.rd
              obtain ⟨q0, row, rfl, hq0, hrow', ho⟩ := hd3.sys.row hx
              have hrow : row ∈ S.mult := List.mem_of_getElem? hrow'
              have hv := ok.mv row hrow
              have hrr := ok.mr row hrow
              have nkq : q0 ≠ kd := fun z => by
                obtain ⟨kvs, h1, _⟩ := sr3.kn
                rw [z, h1] at ho
                cases ho
              have sn : ∀ {b3 : Int}, IsMax (LaterR S (ws.drop i) row) L b3 → IsMax (fun n => Base0 S (ws.drop i) n ∨ ∃ r ∈ S.mult.take (t + 1), LaterR S (ws.drop i) r n) L (if b3 > b2 then b3 else b2) := fun h => by
                rw [take_snoc hrow']
                exact IsMax.snoc (F := fun r n => LaterR S (ws.drop i) r n) mx3 h
              have non : IsMax (LaterR S (ws.drop i) row) L 0 → IsMax (fun n => Base0 S (ws.drop i) n ∨ ∃ r ∈ S.mult.take (t + 1), LaterR S (ws.drop i) r n) L b2 := fun h => by
                have := sn h
                rw [mx3.le_of] at this
                exact this
              refine seq_gen (fun σ' H' => ∃ top, σ' = [some (.ref r.p), some (.int i), some (.int L), some (.ref kd), some (.int ws.length), some (.int b2), v6, some (.ref q0), some (.int top), v9, v10] ∧ H' = H3 ∧ TopIs row L top) (fun R3 hR3 => ?_) ?_
              · refine ⟨_, rfl, q0, _, 2, mostV row.most, rfl, rfl, SqT.of ho, rfl, rfl, _, rfl, ?_⟩
                cases hm : row.most with
                | none => exact iteT ⟨_, rfl, _, rfl, q0, _, 1, .int row.v, rfl, rfl, SqT.of ho, rfl, _, _, rfl, rfl, ⟨by omega, by omega⟩, hR3 _ _ ⟨_, rfl, rfl, topIs_none hv.1 hm⟩⟩
                | some c =>
                  exact iteF ⟨_, rfl, q0, _, 2, .int c, rfl, rfl, SqT.of ho, by show some (mostV row.most) = _; rw [hm]; rfl, _, rfl, _, rfl, q0, _, 1, .int row.v, rfl, rfl, SqT.of ho, rfl, _, _, rfl, rfl, ⟨by omega, by omega⟩, _, _, rfl, hR3 _ _ ⟨_, rfl, rfl, topIs_some hv.1 hm⟩⟩
              · rintro σ' H' ⟨top, rfl, rfl, ht⟩
                have htl := ht.lims hv.1 hl hl2
                refine ⟨_, rfl, r.p, r.dx, _, rfl, hd3.ob, rfl, _, rfl, _, rfl, _, rfl, r, S, ws, i, top, kd, rfl, sr3, hi, htl.1, htl.2, fun c H4 hc k4 sr4 => ?_⟩
                have hd4 := sr4.rd
                have ho4 := k4 _ _ ho (by simpa using nkq)
                refine ⟨_, rfl, _, rfl, q0, row, c, rfl, ho4, _, rfl, ?_⟩
                cases hb : spokenB row c with
                | false =>
                  refine iteF ⟨b2, _, _, _, _, _, rfl, k3.trans k4, sr4, non (laterR_none ok hrow ht hc fun z => ?_)⟩
                  rw [← spokenB_iff, hb] at z
                  cases z
                | true =>
                  have hsp := spokenB_iff.mp hb
                  have c1 := hsp.pos
                  have gv := gv_ge c1 hv.1
                  have c2 : c ≤ 1500000 := by
                    rcases hc.bd.2 with z | z <;> omega
                  have hmin : (if L - c * row.v < row.rest then L - c * row.v else row.rest) ≤ lim m := lim_rest hl hv.1 c1 (by omega)
                  have mulr : (-(2 ^ 64) < c ∧ c < 2 ^ 64) ∨ (-(2 ^ 64) < row.v ∧ row.v < 2 ^ 64) := .inr ⟨by omega, by omega⟩
                  refine iteT ⟨_, rfl, r.p, r.dx, _, rfl, hd4.ob, rfl, _, rfl, _, rfl, q0, _, 4, .int row.rest, rfl, rfl, SqT.of ho4, rfl, _, rfl, _, rfl, _, rfl, q0, _, 1, .int row.v, rfl, rfl, SqT.of ho4, rfl, _, _, rfl, rfl, mulr, _, _, rfl, rfl, _, _, rfl, _, rfl, r, S, ws, ws.length, _, kd, rfl, sr4, Nat.le_refl _, hmin, by split <;> omega, fun t5 H5 ht5 k5 sr5 => ?_⟩
                  rw [List.drop_length] at ht5
                  have ho5 := k5 _ _ ho4 (by simpa using nkq)
                  exact ⟨_, rfl, _, rfl, _, rfl, q0, _, 1, .int row.v, rfl, rfl, SqT.of ho5, rfl, _, _, rfl, rfl, mulr, _, rfl, _, _, rfl, rfl, _, _, rfl, _, _, _, _, _, _, rfl, (k3.trans k4).trans k5, sr5, sn (laterR_max ok hrow ht hc hsp ht5)⟩
            · rintro σ H3 ⟨b2, v6, v7, v8, v9, v10, rfl, k3, sr3, mx3⟩
              rw [List.length_map, sr3.rd.sys.ml, List.take_length] at mx3
              exact hR2 _ _ ⟨b2, _, _, _, _, _, rfl, k3, sr3, mx3.congr fun n => (poss_iff n).symm⟩
          · rintro σ H3 ⟨b2, v6, v7, v8, v9, v10, rfl, k3, sr3, mx3⟩
            obtain ⟨kvs3, hk3, ko3⟩ := sr3.kn
            refine ⟨_, rfl, _, rfl, _, rfl, _, rfl, z2, fun p2 hp2 => ⟨kd, _, rfl, DPut.t (k := key) ((same_upd _ hp2) _ _ hk3) (hkey ▸ upd_same) (ko3.len hw), hR _ _ ?_⟩⟩
            have kop : KnownOk S ws (putK kvs3 key (.int b2)) := hkey ▸ ko3.put hi (by omega) hl2 mx3
            have pu := (sr3.same (same_upd (.tup [.int i, .int L]) hp2)).put ((same_upd _ hp2) _ _ hk3) kop
            exact ⟨b2, _, _, _, _, _, _, _, rfl, (k3.trans (.of_same (same_upd _ hp2))).trans pu.1, pu.2, mx3, _, upd_same, by rw [valV_put, if_pos rfl]⟩
    · rintro σ' H' ⟨x, v4, v5, v6, v7, v8, v9, v10, rfl, k1, sr1, mx, kvs, hk, hv⟩
      refine ⟨_, rfl, _, rfl, _, rfl, z2, fun p hp => ⟨kd, .int x, rfl, ?_, q x _ mx (k1.trans (.of_same (same_upd _ hp))) (sr1.same (same_upd _ hp))⟩⟩
      have := DGet.t (k := key) (H := upd H' p (.tup [.int i, .int L])) (b := p) ((same_upd _ hp) _ _ hk) (hkey ▸ upd_same)
      rw [hv] at this
      exact this
/-- the search, at every depth -/
theorem g_atMost (T : Txt K mg a) : ∀ n : Nat, FnG P w K mg base (3 * n + 3) a.f_atMost a.d_atMost ["self", "start", "limit", "known"] (sp_atMost a n)
  | 0 => g_atMost_step (k := 2) T (by omega) ((g_no T.F_first sc_first).mono (by omega)) ((g_no T.F_begun sc_begun).mono (by omega)) ((g_no T.F_atMost sc_atMost).mono (by omega)) (g_isSpoken T) (g_simpleValue T) (.inl rfl)
  | n + 1 => by
    have G := g_atMost T n
    have G1 := g_restAM T G
    have G2 := g_begun T (by omega) G1 (g_multiplier T) (g_counts T (g_isSpoken T))
    have G3 := g_first T G
    exact g_atMost_step (k := 3 * n + 5) T (by omega) (G3.mono (by omega)) G2 (G.mono (by omega)) (g_isSpoken T) (g_simpleValue T) (.inr ⟨n, rfl, rfl, rfl, rfl⟩)
end
end K30
set_option Elab.async false
set_option linter.all false
set_option maxRecDepth 100000
set_option maxHeartbeats 4000000
/-! K30E: the lists of sums, word by word. -/
namespace K30
open PySem PySem.Spec PyProof.Rows L2 L2H
theorem seg_split {ws : List Str} {i t j : Nat} (h1 : i ≤ t) (h2 : t < j) (h3 : j ≤ ws.length) : seg ws i j = seg ws i t ++ ws[t] :: seg ws (t + 1) j := by
  unfold seg
  have e1 : (ws.drop i).take (j - i) = ((ws.drop i).take (j - i)).take (t - i) ++ ((ws.drop i).take (j - i)).drop (t - i) := (List.take_append_drop _ _).symm
  rw [e1, List.take_take, Nat.min_eq_left (by omega), List.drop_take, List.drop_drop]
  have e2 : i + (t - i) = t := by omega
  have e3 : j - i - (t - i) = (j - (t + 1)) + 1 := by omega
  rw [e2, e3, List.drop_eq_getElem_cons (l := ws) (i := t) (by omega), List.take_succ_cons]
theorem seg_parts {ws pc pr : List Str} {i j : Nat} {w : Str} (h3 : j ≤ ws.length) (hij : i ≤ j) (h : seg ws i j = pc ++ w :: pr) :
    i + pc.length < j ∧ ws[i + pc.length]? = some w ∧ seg ws i (i + pc.length) = pc ∧ seg ws (i + pc.length + 1) j = pr := by
  have hl : (seg ws i j).length = j - i := by
    unfold seg
    rw [List.length_take, List.length_drop]
    omega
  have hl2 : j - i = pc.length + (pr.length + 1) := by rw [← hl, h, List.length_append, List.length_cons]
  have hlt : i + pc.length < j := by omega
  have sp := seg_split (i := i) (t := i + pc.length) (j := j) (by omega) hlt h3
  rw [h] at sp
  have hl3 : pc.length = (seg ws i (i + pc.length)).length := by
    unfold seg
    rw [List.length_take, List.length_drop]
    omega
  obtain ⟨e1, e2⟩ := List.append_inj sp hl3
  obtain ⟨e3, e4⟩ := List.cons.inj e2
  refine ⟨hlt, ?_, e1.symm, e4.symm⟩
  rw [List.getElem?_eq_getElem (by omega), ← e3]
/-- a number whose outermost word is the t-th -/
def AtD (S : SyS) (ws : List Str) (i j t : Nat) (n : Int) : Prop := ∃ r g e, r ∈ S.mult ∧ ws[t]? = some r.w ∧ CountD S r g (seg ws i t) ∧ RestD S r e (seg ws (t + 1) j) ∧ n = g * r.v + e
theorem der_iff {S : SyS} {ws : List Str} {i j : Nat} (hij : i < j) (hj : j ≤ ws.length) (n : Int) : Der S n (seg ws i j) ↔ (j = i + 1 ∧ ∃ w, ws[i]? = some w ∧ (w, n) ∈ S.simple) ∨ ∃ t, i ≤ t ∧ t < j ∧ AtD S ws i j t n := by
  constructor
  · intro d
    rcases d.inv with ⟨w, h, e⟩ | ⟨r, g, t, pc, pr, hr, hc, ht, rfl, e⟩
    · obtain ⟨h1, h2, h3, h4⟩ := seg_parts (pc := []) (pr := []) hj (Nat.le_of_lt hij) e
      refine .inl ⟨?_, w, h2, h⟩
      have := congrArg List.length e
      unfold seg at this
      rw [List.length_take, List.length_drop, List.length_singleton] at this
      omega
    · obtain ⟨h1, h2, h3, h4⟩ := seg_parts hj (Nat.le_of_lt hij) e
      exact .inr ⟨i + pc.length, by omega, h1, r, g, t, hr, h2, by rw [h3]; exact hc, by rw [h4]; exact ht, rfl⟩
  · rintro (⟨rfl, w, hw, h⟩ | ⟨t, h1, h2, r, g, e, hr, hw, hc, ht, rfl⟩)
    · have e : seg ws i (i + 1) = [w] := by
        rw [seg_split (Nat.le_refl i) (Nat.lt_succ_self i) hj, seg_self, seg_self, (List.getElem?_eq_some_iff.mp hw).2]
        rfl
      rw [e]
      exact .simple h
    · rw [seg_split h1 h2 hj, (List.getElem?_eq_some_iff.mp hw).2]
      exact Der.make hr hc ht
theorem int_box {B : Nat} {l : List Int} (nd : l.Nodup) (h : ∀ x ∈ l, 1 ≤ x ∧ x ≤ (B : Int)) : l.length ≤ B := by
  have h1 : (l.map fun x => (x - 1).toNat).Nodup := by
    refine List.Pairwise.map _ (R := fun a b => (a - 1).toNat ≠ (b - 1).toNat) (fun _ _ z => z) (List.Pairwise.imp_of_mem (R := fun a b => a ≠ b) ?_ nd)
    intro a b ha hb hne e
    have := h a ha
    have := h b hb
    exact hne (by omega)
  have h2 := nat_box B _ h1 fun x hx => by
    obtain ⟨y, hy, rfl⟩ := List.mem_map.mp hx
    have := h y hy
    omega
  rwa [List.length_map] at h2
/-- a dict whose keys are just the numbers that P says -/
def FdAt (H : Hp) (fd : Addr) (Pn : Int → Prop) : Prop := ∃ (kvs : List (L2.Key × V)) (ns : List Int), H fd = some (.dK kvs) ∧ kvs.map (·.1) = ns.map Sum.inl ∧ ns.Nodup ∧ ∀ n, n ∈ ns ↔ Pn n
theorem FdAt.congr {H : Hp} {fd : Addr} {P' Q' : Int → Prop} (h : FdAt H fd P') (e : ∀ n, P' n ↔ Q' n) : FdAt H fd Q' := by
  obtain ⟨kvs, ns, h1, h2, h3, h4⟩ := h
  exact ⟨kvs, ns, h1, h2, h3, fun n => (h4 n).trans (e n)⟩
theorem FdAt.to {H H' : Hp} {fd : Addr} {P' : Int → Prop} (h : FdAt H fd P') (e : H' fd = H fd) : FdAt H' fd P' := by
  obtain ⟨kvs, ns, h1, h2, h3, h4⟩ := h
  exact ⟨kvs, ns, e.trans h1, h2, h3, h4⟩
theorem FdAt.put {H : Hp} {fd : Addr} {P' : Int → Prop} {n : Int} {v : V} {B : Nat} (h : FdAt H fd P') (hb : ∀ m, P' m → 1 ≤ m ∧ m ≤ (B : Int)) (hB : B < sizeLine) : ∃ H', DPut H fd (.int n) v H' ∧ FdAt H' fd (fun m => P' m ∨ m = n) ∧ Kp [fd] H H' := by
  obtain ⟨kvs, ns, h1, h2, h3, h4⟩ := h
  have hl : kvs.length = ns.length := by rw [← List.length_map (f := (·.1)) (as := kvs), h2, List.length_map]
  have hlt : kvs.length < sizeLine := by
    rw [hl]
    exact Nat.lt_of_le_of_lt (int_box h3 fun x hx => hb x ((h4 x).mp hx)) hB
  refine ⟨_, DPut.k (k := .inl n) h1 hlt, ?_, fun b o e hb => by rw [upd_ne (by simpa using hb)]; exact e⟩
  cases e : valV kvs (Sum.inl n : L2.Key) with
  | none =>
    refine ⟨_, ns ++ [n], upd_same, ?_, ?_, fun m => ?_⟩
    · rw [putK_new _ e, List.map_append, List.map_append, h2]
      rfl
    · have hn : n ∉ ns := fun hm => by
        have : (Sum.inl n : L2.Key) ∈ kvs.map (·.1) := by
          rw [h2]
          exact List.mem_map.mpr ⟨n, hm, rfl⟩
        exact valV_not e this
      exact List.nodup_append.mpr ⟨h3, by simp, fun x hx y hy e' => by
        rw [List.mem_singleton.mp hy] at e'
        exact hn (e' ▸ hx)⟩
    · rw [List.mem_append, List.mem_singleton, h4 m]
  | some x =>
    have hm : n ∈ ns := by
      have := valV_in e
      rw [h2] at this
      obtain ⟨y, hy, e'⟩ := List.mem_map.mp this
      cases e'
      exact hy
    have hk : (putK kvs (Sum.inl n : L2.Key) v).map (·.1) = kvs.map (·.1) := by
      unfold putK
      rw [if_pos (by rw [valV_any, e]; rfl), List.map_map]
      refine List.map_congr_left fun p _ => ?_
      show (if p.1 = Sum.inl n then (p.1, v) else p).1 = p.1
      split <;> rfl
    refine ⟨_, ns, upd_same, hk.trans h2, h3, fun m => ?_⟩
    rw [h4 m]
    constructor
    · exact .inl
    · rintro (z | rfl)
      · exact z
      · exact (h4 m).mp hm
def sp_derived (a : Ad) : Sp := fun vs H Q _ => ∃ (r : RA) (S : SyS) (ws : List Str) (D : Nat → Nat → Prop) (i j : Nat), vs = [.ref r.p, .int i, .int j] ∧ RdAt a H r S ws D ∧ S.Ok ∧ ws.length ≤ 6 ∧ i < j ∧ j ≤ ws.length ∧ (∀ t, i < t → t < j → D i t ∧ D t j) ∧
  ∀ (l : Addr) (ms : List Int) H', Same H H' → H l = none → H' l = some (.lst (ms.map V.int)) → SortedOf (fun n => Der S n (seg ws i j)) ms → Q (.ref l) H'
section
variable {P : Program} {w : World} {K : PySem.W.Frag} {mg : Str → Option Value} {base : Heap} {a : Ad}
theorem g_derived (T : Txt K mg a) (G_simpleValue' : FnG P w K mg base 1 a.f_simpleValue a.d_simpleValue ["self", "word"] (sp_simpleValue a)) (G_multiplier' : FnG P w K mg base 1 a.f_multiplier a.d_multiplier ["self", "word"] (sp_multiplier a))
    (G_counts : FnG P w K mg base 2 a.f_counts a.d_counts ["self", "row", "start", "at"] (sp_counts a)) (G_rests' : FnG P w K mg base 1 a.f_rests a.d_rests ["self", "row", "start", "stop"] (sp_rests a)) :
    FnOk P w K mg base CX0 3 a.f_derived a.d_derived ["self", "start", "stop"] (sp_derived a) := by
  have G_simpleValue := G_simpleValue'.mono (k := 2) (by omega)
  have G_multiplier := G_multiplier'.mono (k := 2) (by omega)
  have G_rests := G_rests'.mono (k := 2) (by omega)
  refine T.F_derived.ok sc_derived (fun vs H Q E h => ?_) (fun cdv A outer s H vs Q E hr h => ?_)
  · obtain ⟨r, S, ws, D, i, j, rfl, _⟩ := h
    rfl
  · obtain ⟨r, S, ws, D, i, j, rfl, hd, ok, hw, hij, hj, hD, k⟩ := h
    refine ⟨_, (pss_cons (ps_set (i := 3) sc_derived.nd rfl (Or.inl rfl) pe_dnewK)
      (pss_cons (ps_set (i := 4) sc_derived.nd rfl (Or.inl rfl) (peg_meth (.inl rfl) (fldK K (pv 0) rfl) T.cl_cSys T.e_simpleValue G_simpleValue ((roomH_of hr).mono (by omega)) T.b_simpleValue (pa_cons (pe_ix (ixL K) (fldK K (pv 0) rfl) (pv 1) (fun _ _ => rfl)) pa_nil)))
      (pss_cons (ps_if (PW.pt (pw_and (pt_cmpR op_notN (pv 4) pe_non (nomark _)) (pw_and1 (pt_cmpR op_eq (pv 2) (pe_op op_add (pv 1) pe_int) (nomark _))))) (pss_one (ps_dput (huH (roomH_of hr)) (pv 3) (pv 4) pe_bl rfl)) pss_nil)
      (pss_cons (psg_for PassesOwn.never (.inl rfl) (pig_range2 (by rfl) T.z_range (pa_cons (pv 1) (pa_cons (pv 2) pa_nil))) (pg_name (i := 5) sc_derived.nd rfl (.inl rfl))
      (pss_cons (ps_set (i := 6) sc_derived.nd rfl (Or.inl rfl) (peg_meth (.inl rfl) (fldK K (pv 0) rfl) T.cl_cSys T.e_multiplier G_multiplier ((roomH_of hr).mono (by omega)) T.b_multiplier (pa_cons (pe_ix (ixL K) (fldK K (pv 0) rfl) (pv 5) (fun _ _ => rfl)) pa_nil)))
      (pss_one (ps_if (pt_cmpR op_notN (pv 6) pe_non (nomark _)) (pss_one (psg_for PassesOwn.never (.inl rfl) (pigL K (peg_meth (.inl rfl) (pv 0) T.cl_cRd T.e_counts G_counts ((roomH_of hr).mono (by omega)) T.b_counts (pa_cons (pv 6) (pa_cons (pv 1) (pa_cons (pv 5) pa_nil))))) (pg_name (i := 7) sc_derived.nd rfl (.inl rfl))
      (pss_one (psg_for PassesOwn.never (.inl rfl) (pigL K (peg_meth (.inl rfl) (pv 0) T.cl_cRd T.e_rests G_rests ((roomH_of hr).mono (by omega)) T.b_rests (pa_cons (pv 6) (pa_cons (pe_op op_add (pv 5) pe_int) (pa_cons (pv 2) pa_nil))))) (pg_name (i := 8) sc_derived.nd rfl (.inl rfl))
      (pss_one (ps_dput (huH (roomH_of hr)) (pv 3) (pe_op op_add (pe_op op_mul (pv 7) (pe_ix (ixT K) (pv 6) pe_int (fun _ _ => rfl))) (pv 8)) pe_bl rfl)))))) pss_nil))))
      (pss_one (ps_ret (pe_callB (cr_sortedDI rfl) (by rfl) T.z_sorted (by decide +kernel) (pa_cons (pv 3) pa_nil)))))))), ?_⟩
    refine fun fd hfd => ?_
    dsimp only [gName]
    have s0 : Same H (upd H fd (.dK [])) := same_upd _ hfd
    obtain ⟨H0, hH0⟩ : ∃ H0, H0 = upd H fd (.dK []) := ⟨_, rfl⟩
    rw [← hH0] at s0 ⊢
    have F0 : FdAt H0 fd (fun _ => False) := ⟨[], [], hH0 ▸ upd_same, rfl, .nil, fun n => by simp⟩
    have hi : i < ws.length := by omega
    have hwi : ws[i]? = some ws[i] := List.getElem?_eq_getElem hi
    have hvi : (ws.map V.str)[i]? = some (.str ws[i]) := by rw [List.getElem?_map, hwi]; rfl
    have hd0 := hd.same s0
    have bd : ∀ n, Der S n (seg ws i j) → 1 ≤ n ∧ n ≤ ((1000000 : Nat) : Int) := fun n d => d.small ok (seg_len hw)
    refine seq_gen (fun σ' H' => ∃ v, σ' = [some (.ref r.p), some (.int i), some (.int j), some (.ref fd), some v, none, none, none, none] ∧ H' = H0 ∧ ((∃ x, v = .int x ∧ (ws[i], x) ∈ S.simple) ∨ (v = .non ∧ ∀ e ∈ S.simple, e.1 ≠ ws[i]))) (fun R hR => ?_) ?_
    · refine ⟨_, rfl, r.p, a.cRd, r.dx, _, _, rfl, hd0.ob, T.cl_cRd, T.n_cRd__system, fR_system, r.s.p, r.s.dx, _, rfl, hd0.sys.ob, rfl, _, rfl, r.p, a.cRd, r.dx, _, _, rfl, hd0.ob, T.cl_cRd, T.n_cRd__words, fR_words, _, rfl, r.la, _, (i : Int), .str ws[i], rfl, rfl, SqL.of hd0.la, atI_nat hvi, r.s, S, ws[i], rfl, hd0.sys, fun e he ew => ?_, fun hno => ?_⟩
      · exact hR _ _ ⟨_, rfl, rfl, .inl ⟨e.2, rfl, by rw [← ew]; exact he⟩⟩
      · exact hR _ _ ⟨_, rfl, rfl, .inr ⟨rfl, hno⟩⟩
    rintro σ' H' ⟨v, rfl, rfl, hv⟩
    refine seq_gen (fun σ' H2 => σ' = [some (.ref r.p), some (.int i), some (.int j), some (.ref fd), some v, none, none, none, none] ∧ Same H H2 ∧ FdAt H2 fd (fun n => j = i + 1 ∧ ∃ w, ws[i]? = some w ∧ (w, n) ∈ S.simple)) (fun R hR => ?_) ?_
    · rcases hv with ⟨x, rfl, hx⟩ | ⟨rfl, hno⟩
      · refine ⟨_, rfl, rfl, _, rfl, iteT ⟨_, rfl, _, rfl, _, _, rfl, rfl, rfl, _, rfl, ?_⟩⟩
        by_cases hj1 : j = i + 1
        · rw [dint_t (by omega)]
          obtain ⟨H2, pu, F2, k2⟩ := F0.put (n := x) (v := .bl true) (B := 1000000) (fun m z => z.elim) (by decide)
          refine iteT ⟨_, rfl, _, rfl, fd, H2, rfl, pu, hR _ _ ⟨rfl, fun b o e => k2 _ _ (s0 _ _ e) (by simpa using ne_of_none e hfd), F2.congr fun n => ?_⟩⟩
          constructor
          · rintro (z | rfl)
            · exact z.elim
            · exact ⟨hj1, _, hwi, hx⟩
          · rintro ⟨_, w, hw', hn⟩
            rw [hwi] at hw'
            cases hw'
            exact .inr (simple_uniq ok hn hx)
        · rw [dint_f (by omega)]
          exact iteF (hR _ _ ⟨rfl, s0, F0.congr fun n => ⟨fun z => z.elim, fun z => hj1 z.1⟩⟩)
      · refine ⟨_, rfl, rfl, _, rfl, iteF (iteF (hR _ _ ⟨rfl, s0, F0.congr fun n => ⟨fun z => z.elim, ?_⟩⟩))⟩
        rintro ⟨_, w, hw', hn⟩
        rw [hwi] at hw'
        cases hw'
        exact hno _ hn rfl
    rintro σ' H2 ⟨rfl, s2, F2⟩
    refine seq_gen (fun σ' H3 => ∃ v4 v5 v6 v7 v8, σ' = [some (.ref r.p), some (.int i), some (.int j), some (.ref fd), v4, v5, v6, v7, v8] ∧ Same H H3 ∧ FdAt H3 fd (fun n => Der S n (seg ws i j))) (fun R hR => ?_) ?_
    · refine ⟨_, rfl, _, rfl, _, _, rfl, ⟨by omega, by omega, by omega, by omega⟩, ?_⟩
      have hnn : ((j : Int) - (i : Int)).toNat = j - i := by omega
      rw [hnn]
      refine for_range (lo := (i : Int)) (n := j - i) (fun m σ H3 => ∃ v5 v6 v7 v8, σ = [some (.ref r.p), some (.int i), some (.int j), some (.ref fd), some v, v5, v6, v7, v8] ∧ Same H H3 ∧
          FdAt H3 fd (fun n => (j = i + 1 ∧ ∃ w, ws[i]? = some w ∧ (w, n) ∈ S.simple) ∨ ∃ t, i ≤ t ∧ t < i + m ∧ AtD S ws i j t n))
        ⟨none, none, none, none, rfl, s2, F2.congr fun n => ⟨.inl, fun z => z.elim id fun ⟨t, h1, h2, _⟩ => by omega⟩⟩ ?_ ?_
      · rintro m σ H3 hm ⟨v5, v6, v7, v8, rfl, s3, F3⟩
        have hd3 := hd.same s3
        have ez : (i : Int) + (m : Int) = ((i + m : Nat) : Int) := by omega
        rw [ez]
        have hmj : i + m < j := by omega
        have hwj : ws[i + m]? = some ws[i + m] := List.getElem?_eq_getElem (by omega)
        have hvj : (ws.map V.str)[i + m]? = some (.str ws[i + m]) := by rw [List.getElem?_map, hwj]; rfl
        refine ⟨_, rfl, r.p, a.cRd, r.dx, _, _, rfl, hd3.ob, T.cl_cRd, T.n_cRd__system, fR_system, r.s.p, r.s.dx, _, rfl, hd3.sys.ob, rfl, _, rfl, r.p, a.cRd, r.dx, _, _, rfl, hd3.ob, T.cl_cRd, T.n_cRd__words, fR_words, _, rfl, r.la, _, ((i + m : Nat) : Int), .str ws[i + m], rfl, rfl, SqL.of hd3.la, atI_nat hvj, r.s, S, ws[i + m], rfl, hd3.sys, fun x q0 row e1 e2 e3 => ?_, fun hno => ?_⟩
        · have hrow : row ∈ S.mult := List.mem_of_getElem? e2
          have ho := hd3.sys.me x q0 row e1 e2
          have hv := ok.mv row hrow
          have hrr := ok.mr row hrow
          have nfq : q0 ≠ fd := fun z => by
            obtain ⟨_, _, h1, _⟩ := F3
            rw [z, h1] at ho
            cases ho
          refine ⟨_, rfl, rfl, _, rfl, iteT ?_⟩
          refine ⟨_, rfl, r.p, r.dx, _, rfl, hd3.ob, rfl, _, rfl, _, rfl, _, rfl, r, S, ws, D, q0, row, i, i + m, rfl, hd3, ok, hw, by omega, ho, by omega, fun h => (hD (i + m) (by omega) hmj).1, fun l gs H4 s4 hl0 hll gsp => ⟨l, rfl, ⟨_, SqL.of hll⟩, ?_⟩⟩
          have F4 : FdAt H4 fd _ := F3.to (by
            obtain ⟨kvs, _, h1, _⟩ := F3
            rw [h1]
            exact s4 _ _ h1)
          have nfl : l ≠ fd := fun z => by
            obtain ⟨_, _, h1, _⟩ := F4
            rw [z, h1] at hll
            cases hll
          have st : ∀ {H5 : Hp}, Kp [fd] H4 H5 → H5 q0 = some (.tup (rowV row)) ∧ H5 l = some (.lst (gs.map V.int)) := fun k5 =>
            ⟨k5 _ _ (s4 _ _ ho) (by simpa using nfq), k5 _ _ hll (by simpa using nfl)⟩
          have sk : ∀ {H5 : Hp}, Kp [fd] H4 H5 → Same H H5 := fun k5 b o e => k5 _ _ (s4 _ _ (s3 _ _ e)) (by simpa using ne_of_none e hfd)
          refine for_list (K := K) (a := l) (xs := gs.map V.int) (fun t σ H5 => ∃ v7 v8, σ = [some (.ref r.p), some (.int i), some (.int j), some (.ref fd), some v, some (.int ((i + m : Nat) : Int)), some (.ref q0), v7, v8] ∧ Kp [fd] H4 H5 ∧
              FdAt H5 fd (fun n => ((j = i + 1 ∧ ∃ w, ws[i]? = some w ∧ (w, n) ∈ S.simple) ∨ ∃ t, i ≤ t ∧ t < i + m ∧ AtD S ws i j t n) ∨ ∃ g ∈ gs.take t, ∃ e, RestD S row e (seg ws (i + m + 1) j) ∧ n = g * row.v + e))
            ⟨v7, v8, rfl, .refl _ _, F4.congr fun n => by simp⟩ (fun t σ H5 _ ⟨_, _, _, k5, _⟩ => SqL.of (st k5).2) ?_ ?_
          · rintro t x σ H5 hx ⟨v7, v8, rfl, k5, F5⟩
            rw [List.getElem?_map] at hx
            obtain ⟨g, hg, rfl⟩ := Option.map_eq_some_iff.mp hx
            have hgm : g ∈ gs := List.mem_of_getElem? hg
            have hc := (gsp g).mp hgm
            have ho5 := (st k5).1
            have hd5 := hd.same (sk k5)
            refine ⟨_, rfl, r.p, r.dx, _, rfl, hd5.ob, rfl, _, rfl, _, rfl, _, _, rfl, rfl, _, rfl, r, S, ws, D, q0, row, i + m + 1, j, rfl, hd5, ok, hw, hj, ho5, by omega, fun h => (hD (i + m + 1) (by omega) h).2, fun l2 rs H6 s6 hl6 hll6 rsp => ⟨l2, rfl, ⟨_, SqL.of hll6⟩, ?_⟩⟩
            have F6 : FdAt H6 fd _ := F5.to (by
              obtain ⟨kvs, _, h1, _⟩ := F5
              rw [h1]
              exact s6 _ _ h1)
            have nfl2 : l2 ≠ fd := fun z => by
              obtain ⟨_, _, h1, _⟩ := F6
              rw [z, h1] at hll6
              cases hll6
            have k6 : Kp [fd] H4 H6 := k5.trans (.of_same s6)
            refine for_list (K := K) (a := l2) (xs := rs.map V.int) (fun u σ H7 => ∃ v8, σ = [some (.ref r.p), some (.int i), some (.int j), some (.ref fd), some v, some (.int ((i + m : Nat) : Int)), some (.ref q0), some (.int g), v8] ∧ Kp [fd] H6 H7 ∧
                FdAt H7 fd (fun n => (((j = i + 1 ∧ ∃ w, ws[i]? = some w ∧ (w, n) ∈ S.simple) ∨ ∃ t, i ≤ t ∧ t < i + m ∧ AtD S ws i j t n) ∨ ∃ g ∈ gs.take t, ∃ e, RestD S row e (seg ws (i + m + 1) j) ∧ n = g * row.v + e) ∨ ∃ e ∈ rs.take u, n = g * row.v + e))
              ⟨v8, rfl, .refl _ _, F6.congr fun n => by simp⟩ (fun u σ H7 _ ⟨_, _, k7, _⟩ => SqL.of (k7 _ _ hll6 (by simpa using nfl2))) ?_ ?_
            · rintro u x σ H7 hx2 ⟨v8, rfl, k7, F7⟩
              rw [List.getElem?_map] at hx2
              obtain ⟨e, he, rfl⟩ := Option.map_eq_some_iff.mp hx2
              have ho7 := (st (k6.trans k7)).1
              have allD : ∀ n, ((((j = i + 1 ∧ ∃ w, ws[i]? = some w ∧ (w, n) ∈ S.simple) ∨ ∃ t, i ≤ t ∧ t < i + m ∧ AtD S ws i j t n) ∨ ∃ g ∈ gs.take t, ∃ e, RestD S row e (seg ws (i + m + 1) j) ∧ n = g * row.v + e) ∨ ∃ e ∈ rs.take u, n = g * row.v + e) → Der S n (seg ws i j) := by
                rintro n (((z | ⟨t', h1, h2, h3⟩) | ⟨g', hg', e', he', rfl⟩) | ⟨e', he', rfl⟩)
                · exact (der_iff hij hj n).mpr (.inl z)
                · exact (der_iff hij hj n).mpr (.inr ⟨t', h1, by omega, h3⟩)
                · exact (der_iff hij hj _).mpr (.inr ⟨i + m, by omega, hmj, row, g', e', hrow, e3 ▸ hwj, (gsp g').mp (List.mem_of_mem_take hg'), he', rfl⟩)
                · exact (der_iff hij hj _).mpr (.inr ⟨i + m, by omega, hmj, row, g, e', hrow, e3 ▸ hwj, hc, (rsp e').mp (List.mem_of_mem_take he'), rfl⟩)
              obtain ⟨H8, pu, F8, k8⟩ := F7.put (n := g * row.v + e) (v := .bl true) (B := 1000000) (fun n z => bd n (allD n z)) (by decide)
              have mulr : (-(2 ^ 64) < g ∧ g < 2 ^ 64) ∨ (-(2 ^ 64) < row.v ∧ row.v < 2 ^ 64) := .inr ⟨by omega, by omega⟩
              refine ⟨_, rfl, _, rfl, _, rfl, q0, _, 1, .int row.v, rfl, rfl, SqT.of ho7, rfl, _, _, rfl, rfl, mulr, _, rfl, _, _, rfl, rfl, fd, H8, rfl, pu, _, rfl, k7.trans k8, F8.congr fun n => ?_⟩
              rw [take_snoc he]
              constructor
              · rintro ((z | ⟨e', he', z⟩) | z)
                · exact .inl z
                · exact .inr ⟨e', List.mem_append_left _ he', z⟩
                · exact .inr ⟨e, by simp, z⟩
              · rintro (z | ⟨e', he', z⟩)
                · exact .inl (.inl z)
                · rcases List.mem_append.mp he' with h1 | h1
                  · exact .inl (.inr ⟨e', h1, z⟩)
                  · rw [List.mem_singleton.mp h1] at z
                    exact .inr z
            · rintro σ H7 ⟨v8, rfl, k7, F7⟩
              refine ⟨_, _, rfl, k6.trans k7, F7.congr fun n => ?_⟩
              rw [List.length_map, List.take_length, take_snoc hg]
              constructor
              · rintro ((z | ⟨g', hg', z⟩) | ⟨e', he', z⟩)
                · exact .inl z
                · exact .inr ⟨g', List.mem_append_left _ hg', z⟩
                · exact .inr ⟨g, by simp, e', (rsp e').mp he', z⟩
              · rintro (z | ⟨g', hg', e', he', z⟩)
                · exact .inl (.inl z)
                · rcases List.mem_append.mp hg' with h1 | h1
                  · exact .inl (.inr ⟨g', h1, e', he', z⟩)
                  · rw [List.mem_singleton.mp h1] at z
                    exact .inr ⟨e', (rsp e').mpr he', z⟩
          · rintro σ H5 ⟨v7, v8, rfl, k5, F5⟩
            refine ⟨_, _, _, _, rfl, sk k5, F5.congr fun n => ?_⟩
            rw [List.length_map, List.take_length]
            constructor
            · rintro ((z | ⟨t, h1, h2, h3⟩) | ⟨g, hg, e, he, rfl⟩)
              · exact .inl z
              · exact .inr ⟨t, h1, by omega, h3⟩
              · exact .inr ⟨i + m, by omega, by omega, row, g, e, hrow, e3 ▸ hwj, (gsp g).mp hg, he, rfl⟩
            · rintro (z | ⟨t, h1, h2, h3⟩)
              · exact .inl (.inl z)
              · by_cases e : t = i + m
                · subst e
                  obtain ⟨r', g, e', hr', hw', hc', he', hn⟩ := h3
                  have : r' = row := mult_uniq ok hr' hrow (by rw [e3]; rw [hwj] at hw'; exact (Option.some.inj hw').symm)
                  subst this
                  exact .inr ⟨g, (gsp g).mpr hc', e', he', hn⟩
                · exact .inl (.inr ⟨t, h1, by omega, h3⟩)
        · refine ⟨_, rfl, rfl, _, rfl, iteF ⟨_, _, _, _, rfl, s3, F3.congr fun n => ?_⟩⟩
          constructor
          · rintro (z | ⟨t, h1, h2, h3⟩)
            · exact .inl z
            · exact .inr ⟨t, h1, by omega, h3⟩
          · rintro (z | ⟨t, h1, h2, h3⟩)
            · exact .inl z
            · by_cases e : t = i + m
              · subst e
                obtain ⟨r', g, e', hr', hw', _⟩ := h3
                rw [hwj] at hw'
                exact absurd (Option.some.inj hw').symm (hno r' hr')
              · exact .inr ⟨t, h1, by omega, h3⟩
      · rintro σ H3 ⟨v5, v6, v7, v8, rfl, s3, F3⟩
        refine hR _ _ ⟨_, _, _, _, _, rfl, s3, F3.congr fun n => ?_⟩
        rw [der_iff hij hj n, show i + (j - i) = j from by omega]
    · rintro σ' H3 ⟨v4, v5, v6, v7, v8, rfl, s3, kvs, ns, h1, h2, h3, h4⟩
      refine ⟨_, rfl, fd, kvs, ns, rfl, h1, h2, fun ys p py pw hp => ?_⟩
      refine k p ys _ (s3.trans (same_upd _ hp)) (s3.free hp) upd_same ⟨?_, fun n => (py.mem_iff).trans (h4 n)⟩
      have ndy : ys.Nodup := py.nodup_iff.mpr h3
      exact List.Pairwise.imp₂ (fun a b h e => by omega) pw ndy
end
end K30
set_option Elab.async false
set_option linter.all false
set_option maxRecDepth 100000
set_option maxHeartbeats 4000000
/-! K30F: a Reader takes a word and drops it. -/
namespace K30
open PySem PySem.Spec PyProof.Rows L2 L2H
section
variable {a : Ad} {H : Hp} {r : RA} {S : SyS} {ws : List Str} {D : Nat → Nat → Prop}
/-- what is changed is kept apart from what a System is made of -/
theorem RdAt.sysKp {H' : Hp} (h : RdAt a H r S ws D) (k : Kp [r.la, r.va] H H') : SysAt a.cSys H' r.s S := by
  refine h.sys.kp k fun b hb => ?_
  obtain ⟨kvs, e1, _⟩ := h.va
  rcases List.mem_cons.mp hb with e | hb
  · exact .inl ⟨_, e ▸ h.la⟩
  · exact .inr ⟨kvs, (List.mem_singleton.mp hb) ▸ e1⟩
theorem RdAt.va_ne (h : RdAt a H r S ws D) : r.la ≠ r.va := by
  obtain ⟨kvs, e1, _⟩ := h.va
  exact ne_of h.la e1 (fun e => nomatch e)
theorem RdAt.p_la (h : RdAt a H r S ws D) : r.p ≠ r.la := ne_of h.ob h.la (fun e => nomatch e)
theorem RdAt.p_va (h : RdAt a H r S ws D) : r.p ≠ r.va := by
  obtain ⟨kvs, e1, _⟩ := h.va
  exact ne_of h.ob e1 (fun e => nomatch e)
/-- other words -/
theorem RdAt.words (h : RdAt a H r S ws D) {ws2 : List Str} (hs : ∀ i j, D i j → seg ws2 i j = seg ws i j) : RdAt a (upd H r.la (.lst (ws2.map V.str))) r S ws2 D ∧ Kp [r.la, r.va] H (upd H r.la (.lst (ws2.map V.str))) := by
  have k : Kp [r.la, r.va] H (upd H r.la (.lst (ws2.map V.str))) := fun b o e hb => by
    rw [upd_ne (fun z => hb (by rw [z]; exact List.mem_cons_self))]
    exact e
  have hva := h.va_ne
  have hp := h.p_la
  refine ⟨⟨h.sysKp k, by rw [upd_ne hp]; exact h.ob, upd_same, ?_⟩, k⟩
  obtain ⟨kvs, e1, e2, e3, e4⟩ := h.va
  refine ⟨kvs, by rw [upd_ne hva.symm]; exact e1, e2, e3, fun i j d => ?_⟩
  obtain ⟨l, ms, q1, q2, q3, q4⟩ := e4 i j d
  exact ⟨l, ms, q1, q2, by rw [upd_ne q2.1]; exact q3, by rw [hs i j d]; exact q4⟩
def kcode2 : List Key → Nat
  | [.inl i, .inl j] => i.toNat * 8 + j.toNat
  | _ => 0
theorem RdAt.size (h : RdAt a H r S ws D) (hD : ∀ i j, D i j → i ≤ 6 ∧ j ≤ 6) : ∀ kvs, H r.va = some (.dT kvs) → kvs.length < sizeLine := by
  intro kvs e
  obtain ⟨kvs', e1, e2, e3, e4⟩ := h.va
  rw [e1] at e
  cases e
  have nd : ((kvs.map (·.1)).map kcode2).Nodup := by
    refine List.Pairwise.map kcode2 (R := fun a b => kcode2 a ≠ kcode2 b) (fun _ _ z => z) (List.Pairwise.imp_of_mem (R := fun a b => a ≠ b) ?_ e2)
    intro x y hx hy hne e
    obtain ⟨i, j, rfl, d⟩ := e3 x hx
    obtain ⟨i', j', rfl, d'⟩ := e3 y hy
    have := hD i j d
    have := hD i' j' d'
    have e' : (i : Int).toNat * 8 + (j : Int).toNat = (i' : Int).toNat * 8 + (j' : Int).toNat := e
    refine hne ?_
    have : i = i' := by omega
    have : j = j' := by omega
    subst_vars
    rfl
  have := nat_box 64 _ nd fun x hx => by
    obtain ⟨k, hk, rfl⟩ := List.mem_map.mp hx
    obtain ⟨i, j, rfl, d⟩ := e3 k hk
    have := hD i j d
    show (i : Int).toNat * 8 + (j : Int).toNat < 64
    omega
  rw [List.length_map, List.length_map] at this
  exact small_len (by omega)
/-- one more list -/
theorem RdAt.put (h : RdAt a H r S ws D) {i j : Nat} {l : Addr} {ms : List Int} {kvs : List (List L2.Key × V)} (hl : H l = some (.lst (ms.map V.int))) (hne : l ≠ r.la ∧ l ∉ r.av) (so : SortedOf (fun n => Der S n (seg ws i j)) ms) (hk : H r.va = some (.dT kvs)) :
    RdAt a (upd H r.va (.dT (putK kvs (key2 i j) (.ref l)))) r S ws (fun i' j' => D i' j' ∨ (i' = i ∧ j' = j)) ∧ Kp [r.la, r.va] H (upd H r.va (.dT (putK kvs (key2 i j) (.ref l)))) := by
  have k : Kp [r.la, r.va] H (upd H r.va (.dT (putK kvs (key2 i j) (.ref l)))) := fun b o e hb => by
    rw [upd_ne (fun z => hb (by rw [z]; exact List.mem_cons_of_mem _ List.mem_cons_self))]
    exact e
  have hlv : ∀ {b : Addr} {xs : List V}, H b = some (.lst xs) → b ≠ r.va := fun e => ne_of e hk (fun e => nomatch e)
  refine ⟨⟨h.sysKp k, by rw [upd_ne h.p_va]; exact h.ob, by rw [upd_ne h.va_ne]; exact h.la, ?_⟩, k⟩
  obtain ⟨kvs', e1, e2, e3, e4⟩ := h.va
  rw [hk] at e1
  cases e1
  refine ⟨_, upd_same, nd_put _ e2, fun x hx => ?_, fun i' j' d => ?_⟩
  · cases e : valV (putK kvs (key2 i j) (.ref l)) x with
    | none => exact absurd hx (valV_not e)
    | some v =>
      rw [valV_put] at e
      split at e
      · rename_i z
        exact ⟨i, j, z, .inr ⟨rfl, rfl⟩⟩
      · obtain ⟨i', j', z, d⟩ := e3 x (valV_in e)
        exact ⟨i', j', z, .inl d⟩
  · by_cases e : i' = i ∧ j' = j
    · obtain ⟨rfl, rfl⟩ := e
      exact ⟨l, ms, by rw [valV_put, if_pos rfl], hne, by rw [upd_ne (hlv hl)]; exact hl, so⟩
    · obtain ⟨l', ms', q1, q2, q3, q4⟩ := e4 i' j' (d.elim id fun z => absurd z e)
      refine ⟨l', ms', ?_, q2, by rw [upd_ne (hlv q3)]; exact q3, q4⟩
      rw [valV_put, if_neg (fun z => e (key2_inj z))]
      exact q1
theorem valV_drop {κ : Type} [DecidableEq κ] (k j : κ) : ∀ kvs : List (κ × V), valV (dropK kvs k) j = if j = k then none else valV kvs j
  | [] => by
    show none = _
    split <;> rfl
  | p :: r => by
    by_cases e : p.1 = k
    · rw [dropK_pos e, valV_drop k j r]
      by_cases z : j = k
      · rw [if_pos z, if_pos z]
      · rw [if_neg z, if_neg z, valV_neg (fun h => z (h.symm.trans e))]
    · rw [dropK_neg e]
      by_cases h : p.1 = j
      · rw [valV_pos h, valV_pos h, if_neg (fun z => e (h.trans z))]
      · rw [valV_neg h, valV_neg h, valV_drop k j r]
/-- one list less -/
theorem RdAt.drop (h : RdAt a H r S ws D) {i j : Nat} {kvs : List (List L2.Key × V)} (hk : H r.va = some (.dT kvs)) :
    RdAt a (upd H r.va (.dT (dropK kvs (key2 i j)))) r S ws (fun i' j' => D i' j' ∧ ¬ (i' = i ∧ j' = j)) ∧ Kp [r.la, r.va] H (upd H r.va (.dT (dropK kvs (key2 i j)))) := by
  have k : Kp [r.la, r.va] H (upd H r.va (.dT (dropK kvs (key2 i j)))) := fun b o e hb => by
    rw [upd_ne (fun z => hb (by rw [z]; exact List.mem_cons_of_mem _ List.mem_cons_self))]
    exact e
  have hlv : ∀ {b : Addr} {xs : List V}, H b = some (.lst xs) → b ≠ r.va := fun e => ne_of e hk (fun e => nomatch e)
  refine ⟨⟨h.sysKp k, by rw [upd_ne h.p_va]; exact h.ob, by rw [upd_ne h.va_ne]; exact h.la, ?_⟩, k⟩
  obtain ⟨kvs', e1, e2, e3, e4⟩ := h.va
  rw [hk] at e1
  cases e1
  refine ⟨_, upd_same, e2.sublist (List.Sublist.map _ List.filter_sublist), fun x hx => ?_, fun i' j' d => ?_⟩
  · cases e : valV (dropK kvs (key2 i j)) x with
    | none => exact absurd hx (valV_not e)
    | some v =>
      rw [valV_drop] at e
      split at e
      · cases e
      · rename_i z
        obtain ⟨i', j', z', d⟩ := e3 x (valV_in e)
        refine ⟨i', j', z', d, fun q => z ?_⟩
        rw [z', q.1, q.2]
  · obtain ⟨l', ms', q1, q2, q3, q4⟩ := e4 i' j' d.1
    refine ⟨l', ms', ?_, q2, by rw [upd_ne (hlv q3)]; exact q3, q4⟩
    rw [valV_drop, if_neg (fun z => d.2 (key2_inj z))]
    exact q1
theorem RdAt.cut (h : RdAt a H r S ws D) {D' : Nat → Nat → Prop} (e : ∀ i j, D i j ↔ D' i j) : RdAt a H r S ws D' := by
  have : D = D' := funext fun i => funext fun j => propext (e i j)
  exact this ▸ h
end
theorem seg_snoc {ws : List Str} {w : Str} {i j : Nat} (hj : j ≤ ws.length) : seg (ws ++ [w]) i j = seg ws i j := by
  unfold seg
  by_cases h : i ≤ ws.length
  · rw [List.drop_append_of_le_length h, List.take_append_of_le_length (by rw [List.length_drop]; omega)]
  · rw [show j - i = 0 from by omega]
    rfl
def sp_add (a : Ad) : Sp := fun vs H Q _ => ∃ (r : RA) (S : SyS) (ws : List Str) (w : Str), vs = [.ref r.p, .str w] ∧ RdAt a H r S ws (Full ws) ∧ S.Ok ∧ ws.length ≤ 5 ∧ (∀ b ∈ r.av, H b ≠ none) ∧
  ∀ H', Kp [r.la, r.va] H H' → RdAt a H' r S (ws ++ [w]) (Full (ws ++ [w])) → Q .non H'
def sp_drop (a : Ad) : Sp := fun vs H Q _ => ∃ (r : RA) (S : SyS) (ws : List Str) (w : Str), vs = [.ref r.p] ∧ RdAt a H r S (ws ++ [w]) (Full (ws ++ [w])) ∧ S.Ok ∧ ws.length ≤ 5 ∧
  ∀ H', Kp [r.la, r.va] H H' → RdAt a H' r S ws (Full ws) → Q .non H'
def sp_rdInit (a : Ad) : Sp := fun vs H Q _ => ∃ (x dx : Addr) (s : SA) (S : SyS), vs = [.ref x, .ref s.p] ∧ H x = some (.ins a.cRd dx []) ∧ SysAt a.cSys H s S ∧ x ≠ s.p ∧
  ∀ la va H', Kp [x] H H' → H la = none → H va = none → (∀ av, RdAt a H' ⟨x, dx, la, va, s, av⟩ S [] (Full [])) → Q .non H'
section
variable {P : Program} {w : World} {K : PySem.W.Frag} {mg : Str → Option Value} {base : Heap} {a : Ad}
theorem g_add (T : Txt K mg a) (G_derived : FnOk P w K mg base CX0 3 a.f_derived a.d_derived ["self", "start", "stop"] (sp_derived a)) : FnOk P w K mg base CX0 4 a.f_add a.d_add ["self", "word"] (sp_add a) := by
  refine T.F_add.ok sc_add (fun vs H Q E h => ?_) (fun cdv A outer s H vs Q E hr h => ?_)
  · obtain ⟨r, S, ws, w, rfl, _⟩ := h
    rfl
  · obtain ⟨r, S, ws, w, rfl, hd, ok, hw, hav, k⟩ := h
    refine ⟨_, (pss_cons (ps_expr (pe_bm PySem.F.plainAttrs_list PySem.F.slot_list_append PySem.F.type_list_append mt_append (fldK K (pv 0) rfl) (pa_cons (pv 1) pa_nil)))
      (pss_cons (ps_set (i := 2) sc_add.nd rfl (Or.inl rfl) (pe_callB (lenSeq K) (by rfl) T.z_len (by decide +kernel) (pa_cons (fldK K (pv 0) rfl) pa_nil)))
      (pss_one (ps_for PassesOwn.never rfl (pi_range3 (by rfl) T.z_range (pa_cons (pe_op op_sub (pv 2) pe_int) (pa_cons (pe_un un_neg pe_int) (pa_cons (pe_un un_neg pe_int) pa_nil)))) (pg_name (i := 3) sc_add.nd rfl (.inl rfl))
      (pss_one (ps_dput (huH (roomH_of hr)) (fldK K (pv 0) rfl) (pe_tup (pa_cons (pv 3) (pa_cons (pv 2) pa_nil))) (pe_meth (pv 0) T.cl_cRd T.e_derived G_derived (hr.mono (by omega)) T.b_derived .nil pass0 (pa_cons (pv 3) (pa_cons (pv 2) pa_nil))) rfl)))))), ?_⟩
    have hlen : ((ws ++ [w]).map V.str).length = ws.length + 1 := by simp
    obtain ⟨hd1, k1⟩ := hd.words (ws2 := ws ++ [w]) (fun i j d => seg_snoc d.2)
    have e1 : upd H r.la (.lst (ws.map V.str ++ [.str w])) = upd H r.la (.lst ((ws ++ [w]).map V.str)) := by rw [List.map_append]; rfl
    refine ⟨_, rfl, r.p, a.cRd, r.dx, _, _, rfl, hd.ob, T.cl_cRd, T.n_cRd__words, fR_words, .inl ⟨rfl, _, SqL.of hd.la⟩, _, rfl, r.la, _, _, rfl, rfl, hd.la, by rw [List.length_map]; exact small_len (by omega), ?_⟩
    rw [e1]
    refine ⟨_, rfl, r.p, a.cRd, r.dx, _, _, rfl, hd1.ob, T.cl_cRd, T.n_cRd__words, fR_words, _, _, rfl, .inl (SqL.of hd1.la), ?_⟩
    rw [hlen]
    refine ⟨_, rfl, _, _, rfl, rfl, _, rfl, _, rfl, _, _, _, _, rfl, RgC.neg (by omega) (by omega) (by omega) (by omega), ?_⟩
    have hnn : ((((ws.length + 1 : Nat) : Int) - 1) - -1).toNat = ws.length + 1 := by omega
    rw [hnn]
    refine for_rangeC (fun m σ H3 => ∃ v3, σ = [some (.ref r.p), some (.str w), some (.int ((ws.length + 1 : Nat) : Int)), v3] ∧ Kp [r.la, r.va] H H3 ∧ RdAt a H3 r S (ws ++ [w]) (fun i j => Full ws i j ∨ (j = ws.length + 1 ∧ ws.length + 1 ≤ i + m ∧ i ≤ ws.length)))
      ⟨none, rfl, k1, hd1.cut fun i j => ⟨.inl, fun z => z.elim id fun z => by omega⟩⟩ ?_ ?_
    · rintro m σ H3 hm ⟨v3, rfl, k3, hd3⟩
      have ez : (((ws.length + 1 : Nat) : Int) - 1) + (m : Int) * -1 = ((ws.length - m : Nat) : Int) := by omega
      rw [ez]
      have hlw : (ws ++ [w]).length = ws.length + 1 := by simp
      refine ⟨_, rfl, r.p, r.dx, _, rfl, hd3.ob, rfl, _, rfl, _, rfl, r, S, ws ++ [w], _, ws.length - m, ws.length + 1, rfl, hd3, ok, by omega, by omega, by omega, fun t h1 h2 => ⟨.inl ⟨h1, by omega⟩, .inr ⟨rfl, by omega, by omega⟩⟩, fun l ms H4 s4 hl0 hl4 so => ?_⟩
      have hd4 := hd3.same s4
      have hla : l ≠ r.la ∧ l ∉ r.av := by
        refine ⟨fun z => ?_, fun z => ?_⟩
        · rw [z, hd3.la] at hl0
          cases hl0
        · cases e : H l with
          | none => exact hav l z e
          | some o =>
            by_cases h1 : l = r.la
            · rw [h1, hd3.la] at hl0
              cases hl0
            · by_cases h2 : l = r.va
              · obtain ⟨kv, ek, _⟩ := hd3.va
                rw [h2, ek] at hl0
                cases hl0
              · rw [k3 l o e (by simp [h1, h2])] at hl0
                cases hl0
      refine ⟨_, rfl, r.p, a.cRd, r.dx, _, _, rfl, hd4.ob, T.cl_cRd, T.n_cRd__values, fR_values, _, rfl, _, rfl, z2, fun p hp => ?_⟩
      have hd5 := hd4.same (same_upd (.tup [.int ((ws.length - m : Nat) : Int), .int ((ws.length + 1 : Nat) : Int)]) hp)
      obtain ⟨kvs, hk, _⟩ := hd5.va
      have pu := hd5.put (i := ws.length - m) (j := ws.length + 1) ((same_upd _ hp) _ _ hl4) hla so hk
      refine ⟨r.va, _, rfl, DPut.t (k := key2 (ws.length - m) (ws.length + 1)) hk upd_same (hd5.size (fun i j d => ?_) kvs hk), _, rfl, ((k3.trans (.of_same s4)).trans (.of_same (same_upd _ hp))).trans pu.2, pu.1.cut fun i j => ?_⟩
      · rcases d with d | d
        · have := d.1
          have := d.2
          omega
        · omega
      · constructor
        · rintro ((z | ⟨h1, h2, h3⟩) | ⟨h1, h2⟩)
          · exact .inl z
          · exact .inr ⟨h1, by omega, h3⟩
          · exact .inr ⟨h2, by omega, by omega⟩
        · rintro (z | ⟨h1, h2, h3⟩)
          · exact .inl (.inl z)
          · by_cases e : i = ws.length - m
            · exact .inr ⟨e, h1⟩
            · exact .inl (.inr ⟨h1, by omega, h3⟩)
    · rintro σ H3 ⟨v3, rfl, k3, hd3⟩
      refine k H3 k3 (hd3.cut fun i j => ?_)
      unfold Full
      rw [List.length_append, List.length_singleton]
      omega
theorem g_drop (T : Txt K mg a) : FnOk P w K mg base CX0 4 a.f_drop a.d_drop ["self"] (sp_drop a) := by
  refine T.F_drop.ok sc_drop (fun vs H Q E h => ?_) (fun cdv A outer s H vs Q E hr h => ?_)
  · obtain ⟨r, S, ws, w, rfl, _⟩ := h
    rfl
  · obtain ⟨r, S, ws, w, rfl, hd, ok, hw, k⟩ := h
    refine ⟨_, (pss_cons (ps_set (i := 1) sc_drop.nd rfl (Or.inl rfl) (pe_callB (lenSeq K) (by rfl) T.z_len (by decide +kernel) (pa_cons (fldK K (pv 0) rfl) pa_nil)))
      (pss_cons (psg_for PassesOwn.never (.inl rfl) (pig_range1 (by rfl) T.z_range (pa_cons (pv 1) pa_nil)) (pg_name (i := 2) sc_drop.nd rfl (.inl rfl))
      (pss_one (ps_expr (pe_bm PySem.F.plainAttrs_dict PySem.F.slot_dict_pop PySem.F.type_dict_pop (mt_pop1T (huH (roomH_of hr))) (fldK K (pv 0) rfl) (pa_cons (pe_tup (pa_cons (pv 2) (pa_cons (pv 1) pa_nil))) pa_nil)))))
      (pss_one (ps_expr (pe_bm0 PySem.F.plainAttrs_list PySem.F.slot_list_pop PySem.F.type_list_pop mt_pop (fldK K (pv 0) rfl)))))), ?_⟩
    have hlen : ((ws ++ [w]).map V.str).length = ws.length + 1 := by simp
    have hlw : (ws ++ [w]).length = ws.length + 1 := by simp
    refine ⟨_, rfl, r.p, a.cRd, r.dx, _, _, rfl, hd.ob, T.cl_cRd, T.n_cRd__words, fR_words, _, _, rfl, .inl (SqL.of hd.la), ?_⟩
    rw [hlen]
    dsimp only [gName]
    refine seq_gen (fun σ H3 => ∃ v2, σ = [some (.ref r.p), some (.int ((ws.length + 1 : Nat) : Int)), v2] ∧ Kp [r.la, r.va] H H3 ∧ RdAt a H3 r S (ws ++ [w]) (Full ws)) (fun R hR => ?_) ?_
    · refine ⟨_, rfl, _, rfl, by omega, by omega, ?_⟩
      refine for_range (lo := 0) (n := ws.length + 1) (fun m σ H3 => ∃ v2, σ = [some (.ref r.p), some (.int ((ws.length + 1 : Nat) : Int)), v2] ∧ Kp [r.la, r.va] H H3 ∧ RdAt a H3 r S (ws ++ [w]) (fun i j => Full (ws ++ [w]) i j ∧ ¬ (j = ws.length + 1 ∧ i < m)))
        ⟨none, rfl, .refl _ _, hd.cut fun i j => ⟨fun z => ⟨z, by omega⟩, fun z => z.1⟩⟩ ?_ ?_
      · rintro m σ H3 hm ⟨v2, rfl, k3, hd3⟩
        have ez : (0 : Int) + (m : Int) = ((m : Nat) : Int) := by omega
        rw [ez]
        obtain ⟨kvs0, hk0, _⟩ := hd3.va
        refine ⟨_, rfl, r.p, a.cRd, r.dx, _, _, rfl, hd3.ob, T.cl_cRd, T.n_cRd__values, fR_values, .inr (.inr (.inl ⟨rfl, .inr ⟨_, hk0⟩⟩)), _, rfl, _, rfl, z2, fun p hp => ?_⟩
        have hd5 := hd3.same (same_upd (.tup [.int ((m : Nat) : Int), .int ((ws.length + 1 : Nat) : Int)]) hp)
        obtain ⟨kvs, l, ms, hk, hv, _⟩ := hd5.get (i := m) (j := ws.length + 1) ⟨⟨by omega, by omega⟩, by omega⟩
        have dr := hd5.drop (i := m) (j := ws.length + 1) hk
        refine ⟨r.va, kvs, key2 m (ws.length + 1), p, _, rfl, rfl, hk, upd_same, hv, _, rfl, (k3.trans (.of_same (same_upd _ hp))).trans dr.2, dr.1.cut fun i j => ?_⟩
        constructor
        · rintro ⟨⟨h1, h2⟩, h3⟩
          exact ⟨h1, by omega⟩
        · rintro ⟨h1, h2⟩
          exact ⟨⟨h1, by omega⟩, by omega⟩
      · rintro σ H3 ⟨v2, rfl, k3, hd3⟩
        refine hR _ _ ⟨_, rfl, k3, hd3.cut fun i j => ?_⟩
        unfold Full
        rw [hlw]
        omega
    · rintro σ H3 ⟨v2, rfl, k3, hd3⟩
      obtain ⟨hd4, k4⟩ := hd3.words (ws2 := ws) (fun i j d => (seg_snoc d.2).symm)
      have e1 : ((ws ++ [w]).map V.str).dropLast = ws.map V.str := by rw [List.map_append]; exact List.dropLast_concat
      refine ⟨_, rfl, r.p, a.cRd, r.dx, _, _, rfl, hd3.ob, T.cl_cRd, T.n_cRd__words, fR_words, .inl ⟨rfl, _, SqL.of hd3.la⟩, r.la, _, .str w, rfl, rfl, hd3.la, ?_, ?_⟩
      · rw [hlen, Nat.add_sub_cancel, List.map_append, List.getElem?_append_right (by rw [List.length_map]; exact Nat.le_refl _), List.length_map, Nat.sub_self]
        rfl
      · rw [e1]
        exact k _ (k3.trans k4) hd4
theorem g_rdInit (T : Txt K mg a) : FnOk P w K mg base CX0 1 a.f_rdInit a.d_rdInit ["self", "system"] (sp_rdInit a) := by
  refine T.F_rdInit.ok sc_rdInit (fun vs H Q E h => ?_) (fun cdv A outer s H vs Q E hr h => ?_)
  · obtain ⟨x, dx, sa, S, rfl, _⟩ := h
    rfl
  · obtain ⟨x, dx, sa, S, rfl, hx, hs, hne, k⟩ := h
    refine ⟨_, (pss_cons (ps_fld (pv 0) (pv 1) rfl)
      (pss_cons (ps_fld (pv 0) (pe_lst pa_nil) rfl)
      (pss_one (ps_fld (pv 0) pe_dnewT rfl)))), ?_⟩
    refine ⟨_, rfl, _, rfl, x, a.cRd, dx, _, rfl, hx, T.cl_cRd, T.n_cRd__system, by decide, ?_⟩
    obtain ⟨H1, hH1⟩ : ∃ H1, H1 = upd H x (.ins a.cRd dx (putF "_system" (.ref sa.p) [])) := ⟨_, rfl⟩
    have k1 : Kp [x] H H1 := fun b o e hb => by
      rw [hH1, upd_ne (by simpa using hb)]
      exact e
    have x1 : H1 x = some (.ins a.cRd dx [("_system", .ref sa.p)]) := hH1 ▸ upd_same
    rw [← hH1]
    refine ⟨z0, fun la hla => ⟨_, rfl, x, a.cRd, dx, _, rfl, (same_upd _ hla) _ _ x1, T.cl_cRd, T.n_cRd__words, by show (1 : Nat) < 1000; decide, ?_⟩⟩
    have nx1 : la ≠ x := fun z => by
      rw [z, x1] at hla
      cases hla
    obtain ⟨H2, hH2⟩ : ∃ H2, H2 = upd (upd H1 la (.lst [])) x (.ins a.cRd dx (putF "_words" (.ref la) [("_system", .ref sa.p)])) := ⟨_, rfl⟩
    have k2 : Kp [x] H1 H2 := fun b o e hb => by
      rw [hH2, upd_ne (by simpa using hb)]
      exact (same_upd _ hla) _ _ e
    have x2 : H2 x = some (.ins a.cRd dx [("_system", .ref sa.p), ("_words", .ref la)]) := hH2 ▸ upd_same
    have l2 : H2 la = some (.lst []) := by
      rw [hH2, upd_ne nx1]
      exact upd_same
    rw [← hH2]
    refine fun va hva => ⟨_, rfl, x, a.cRd, dx, _, rfl, (same_upd _ hva) _ _ x2, T.cl_cRd, T.n_cRd__values, by show (2 : Nat) < 1000; decide, ?_⟩
    have nx2 : va ≠ x := fun z => by
      rw [z, x2] at hva
      cases hva
    have k3 : Kp [x] H2 (upd (upd H2 va (.dT [])) x (.ins a.cRd dx (putF "_values" (.ref va) [("_system", .ref sa.p), ("_words", .ref la)]))) := fun b o e hb => by
      rw [upd_ne (by simpa using hb)]
      exact (same_upd _ hva) _ _ e
    have kk := (k1.trans k2).trans k3
    have gz : ∀ {b : Addr} {o : HO}, H b = some o → (∀ C dx fs, o ≠ .ins C dx fs) → (upd (upd H2 va (.dT [])) x (.ins a.cRd dx (putF "_values" (.ref va) [("_system", .ref sa.p), ("_words", .ref la)]))) b = some o := fun e h => kk _ _ e (by
      rw [List.mem_singleton]
      intro z
      rw [z, hx] at e
      exact h _ _ _ (Option.some.inj e).symm)
    have la0 : H la = none := by
      cases e : H la with
      | none => rfl
      | some o =>
        rw [k1 la o e (by simpa using nx1)] at hla
        cases hla
    have va0 : H va = none := by
      cases e : H va with
      | none => rfl
      | some o =>
        rw [(k1.trans k2) va o e (by simpa using nx2)] at hva
        cases hva
    refine k la va _ kk la0 va0 fun av => ⟨⟨kk _ _ hs.ob (by simpa using fun z => hne z.symm), gz hs.ts (fun _ _ _ e => nomatch e), hs.pl, fun i q e h1 h2 => gz (hs.pe i q e h1 h2) (fun _ _ _ e => nomatch e), gz hs.tm (fun _ _ _ e => nomatch e), hs.ml, fun i q e h1 h2 => gz (hs.me i q e h1 h2) (fun _ _ _ e => nomatch e), gz hs.tv (fun _ _ _ e => nomatch e), hs.vs, hs.vn, gz hs.tr (fun _ _ _ e => nomatch e), hs.rs, hs.rn⟩, upd_same, k3 _ _ l2 (by simpa using nx1), [], ?_, .nil, (fun k hk => nomatch hk), fun i j d => absurd d.1 (by have := d.2; simp at this; omega)⟩
    rw [upd_ne nx2]
    exact upd_same
end
end K30
set_option Elab.async false
set_option linter.all false
set_option maxRecDepth 100000
set_option maxHeartbeats 4000000
/-! K30G: bounds, allows, push, pop. -/
namespace K30
open PySem PySem.Spec PyProof.Rows L2 L2H
open StX (pa_star)
open C8 (pe_gc)
/-- how far the search for the greatest goes -/
structure LimIs (S : SyS) (ws : List Str) (L : Int) : Prop where
  bm : ∃ m, BMx S m ∧ m ≤ L
  ms : ∀ n, Der S n ws → n ≤ L
  en : ∀ r ∈ S.mult, r.most = none → r.v ≤ L
  at_ : BMx S L ∨ Der S L ws ∨ ∃ r ∈ S.mult, r.most = none ∧ L = r.v
theorem LimIs.le {S : SyS} {ws : List Str} {L L' : Int} (h : LimIs S ws L) (h' : LimIs S ws L') : L ≤ L' := by
  rcases h.at_ with z | z | ⟨r, h1, h2, rfl⟩
  · obtain ⟨m, b, hm⟩ := h'.bm
    rw [z.uniq b]
    exact hm
  · exact h'.ms _ z
  · exact h'.en r h1 h2
theorem LimIs.uniq {S : SyS} {ws : List Str} {L L' : Int} (h : LimIs S ws L) (h' : LimIs S ws L') : L = L' := Int.le_antisymm (h.le h') (h'.le h)
theorem LimIs.hi {S : SyS} {ws : List Str} {L : Int} (h : LimIs S ws L) (ok : S.Ok) (hw : ws.length ≤ 6) : 0 ≤ L ∧ L ≤ 1000000 := by
  refine ⟨?_, ?_⟩
  · obtain ⟨m, b, hm⟩ := h.bm
    have := b.lo
    omega
  · rcases h.at_ with z | z | ⟨r, h1, h2, rfl⟩
    · have := z.hi
      omega
    · exact (z.small ok hw).2
    · have := ok.mv r h1
      omega
/-- the greatest, or None -/
def EndSpoken (S : SyS) (f : Int) : Prop := ∃ r ∈ S.mult, r.most = none ∧ Spoken r f
def GreatIs (S : SyS) (ws : List Str) (g : Option Int) : Prop := ∃ L f, LimIs S ws L ∧ IsMax (Poss S ws) L f ∧ ((f = 0 ∨ EndSpoken S f) → g = none) ∧ (¬ (f = 0 ∨ EndSpoken S f) → g = some f)
theorem GreatIs.uniq {S : SyS} {ws : List Str} {g g' : Option Int} (h : GreatIs S ws g) (h' : GreatIs S ws g') : g = g' := by
  obtain ⟨L, f, h1, h2, h3, h4⟩ := h
  obtain ⟨L', f', h1', h2', h3', h4'⟩ := h'
  have e := h1.uniq h1'
  subst e
  have e := h2.uniq h2'
  subst e
  by_cases z : f = 0 ∨ EndSpoken S f
  · rw [h3 z, h3' z]
  · rw [h4 z, h4' z]
structure LeastIs (S : SyS) (ws : List Str) (l : Option Int) : Prop where
  cons : ws ≠ [] → ∃ v, l = some v ∧ Der S v ws ∧ ∀ n, Der S n ws → v ≤ n
  some_ : ws = [] → ∀ v, l = some v → ((∃ w, (w, v) ∈ S.simple) ∨ ∃ r ∈ S.mult, r.uns = true ∧ r.v = v) ∧ (∀ e ∈ S.simple, v ≤ e.2) ∧ ∀ r ∈ S.mult, r.uns = true → v ≤ r.v
  none_ : ws = [] → l = none → S.simple = [] ∧ ∀ r ∈ S.mult, r.uns = false
theorem LeastIs.le {S : SyS} {ws : List Str} {v v' : Int} (h : LeastIs S ws (some v)) (h' : LeastIs S ws (some v')) : v ≤ v' := by
  by_cases e : ws = []
  · obtain ⟨_, h2, h3⟩ := h.some_ e v rfl
    obtain ⟨h1', _, _⟩ := h'.some_ e v' rfl
    rcases h1' with ⟨w, hw⟩ | ⟨r, hr, hu, rfl⟩
    · exact h2 _ hw
    · exact h3 r hr hu
  · obtain ⟨x, e1, _, h2⟩ := h.cons e
    obtain ⟨x', e1', h2', _⟩ := h'.cons e
    cases e1
    cases e1'
    exact h2 _ h2'
theorem LeastIs.uniq {S : SyS} {ws : List Str} {l l' : Option Int} (h : LeastIs S ws l) (h' : LeastIs S ws l') : l = l' := by
  have nn : ∀ {x : Int}, LeastIs S ws none → LeastIs S ws (some x) → False := fun {x} h h' => by
    by_cases e : ws = []
    · obtain ⟨h1, h2⟩ := h.none_ e rfl
      obtain ⟨h1', _⟩ := h'.some_ e x rfl
      rcases h1' with ⟨w, hw⟩ | ⟨r, hr, hu, _⟩
      · rw [h1] at hw
        cases hw
      · rw [h2 r hr] at hu
        cases hu
    · obtain ⟨x, e1, _⟩ := h.cons e
      cases e1
  cases l with
  | none => cases l' with
    | none => rfl
    | some x => exact (nn h h').elim
  | some y => cases l' with
    | none => exact (nn h' h).elim
    | some x => rw [Int.le_antisymm (h.le h') (h'.le h)]
def sp_allows (a : Ad) : Sp := fun vs H Q _ => ∃ (r : RA) (S : SyS) (ws : List Str) (v : Int), vs = [.ref r.p, .int v] ∧ RdAt a H r S ws (Full ws) ∧ S.Ok ∧ ws.length ≤ 6 ∧ v ≤ 1500000 ∧
  ∀ b H', Same H H' → (b = true ↔ Poss S ws v) → Q (.bl b) H'
def sp_greatest (a : Ad) : Sp := fun vs H Q _ => ∃ (r : RA) (S : SyS) (ws : List Str), vs = [.ref r.p] ∧ RdAt a H r S ws (Full ws) ∧ S.Ok ∧ ws.length ≤ 6 ∧ ∀ g H', Same H H' → GreatIs S ws g → Q (mostV g) H'
def sp_least (a : Ad) : Sp := fun vs H Q _ => ∃ (r : RA) (S : SyS) (ws : List Str), vs = [.ref r.p] ∧ RdAt a H r S ws (Full ws) ∧ S.Ok ∧ ws.length ≤ 6 ∧ (ws ≠ [] → ∃ n, Der S n ws) ∧ ∀ l H', Same H H' → LeastIs S ws l → Q (mostV l) H'
/-- what bounds() answers -/
structure BdAt (H : Hp) (p : Addr) (S : SyS) (ws : List Str) (l g : Option Int) (pm : Addr) (ms : List Int) : Prop where
  tp : H p = some (.tup [mostV l, mostV g, .ref pm])
  tm : H pm = some (.tup (ms.map V.int))
  ls : LeastIs S ws l
  gs : GreatIs S ws g
  so : SortedOf (fun n => Der S n ws) ms
theorem BdAt.same {H H' : Hp} {p : Addr} {S : SyS} {ws : List Str} {l g : Option Int} {pm : Addr} {ms : List Int} (h : BdAt H p S ws l g pm ms) (s : Same H H') : BdAt H' p S ws l g pm ms := ⟨s _ _ h.tp, s _ _ h.tm, h.ls, h.gs, h.so⟩
def sp_bounds (a : Ad) : Sp := fun vs H Q _ => ∃ (r : RA) (S : SyS) (ws : List Str), vs = [.ref r.p] ∧ RdAt a H r S ws (Full ws) ∧ S.Ok ∧ ws.length ≤ 6 ∧ (ws ≠ [] → ∃ n, Der S n ws) ∧ ∀ p l g pm ms H', Same H H' → BdAt H' p S ws l g pm ms → Q (.ref p) H'
def sp_pop (a : Ad) : Sp := fun vs H Q _ => ∃ (r : RA) (S : SyS) (ws : List Str) (w : Str), vs = [.ref r.p] ∧ RdAt a H r S (ws ++ [w]) (Full (ws ++ [w])) ∧ S.Ok ∧ ws.length ≤ 5 ∧ (ws ≠ [] → ∃ n, Der S n ws) ∧
  ∀ p l g pm ms H', Kp [r.la, r.va] H H' → RdAt a H' r S ws (Full ws) → BdAt H' p S ws l g pm ms → Q (.ref p) H'
def sp_push (a : Ad) : Sp := fun vs H Q E => ∃ (r : RA) (S : SyS) (ws : List Str) (w : Str), vs = [.ref r.p, .str w] ∧ RdAt a H r S ws (Full ws) ∧ S.Ok ∧ ws.length ≤ 5 ∧ w ∈ allWords S ∧ (∀ b ∈ r.av, H b ≠ none) ∧
  (∀ p l g pm ms H', (∃ n, Der S n (ws ++ [w])) → Kp [r.la, r.va] H H' → RdAt a H' r S (ws ++ [w]) (Full (ws ++ [w])) → BdAt H' p S (ws ++ [w]) l g pm ms → Q (.ref p) H') ∧
  ∀ H', (∀ n, ¬ Der S n (ws ++ [w])) → Kp [r.la, r.va] H H' → RdAt a H' r S ws (Full ws) → E (.ref a.cNP) none H'
theorem inV_strs {w : Str} {l : List Str} (h : w ∈ l) : inV (.str w) (l.map V.str) = true := by
  unfold inV
  rw [List.any_map, List.any_eq_true]
  exact ⟨w, h, by simp [eqV]⟩
theorem flat_strs (l : List Str) : (l.map V.str).all flatV = true := by
  rw [List.all_map, List.all_eq_true]
  exact fun _ _ => rfl
theorem same_of_kd {H H' : Hp} {kd : Addr} {o : HO} (h0 : H kd = none) (k : Kp [kd] (upd H kd o) H') : Same H H' := fun b u e => k b u ((same_upd o h0) _ _ e) (by simpa using ne_of_none e h0)
theorem sr_new {a : Ad} {H : Hp} {r : RA} {S : SyS} {ws : List Str} {kd : Addr} (hd : RdAt a H r S ws (Full ws)) (ok : S.Ok) (hw : ws.length ≤ 6) (h0 : H kd = none) : Sr a (upd H kd (.dT [])) r S ws kd := by
  refine ⟨hd.same (same_upd _ h0), ok, hw, ⟨[], upd_same, .nil, fun k v e => nomatch e⟩, fun z => ?_⟩
  obtain ⟨kvs, e1, _⟩ := hd.va
  rw [← z, h0] at e1
  cases e1
section
variable {P : Program} {w : World} {K : PySem.W.Frag} {mg : Str → Option Value} {base : Heap}
/-- a def that may raise -/
theorem okN {x qual : Str} {st : Stmt} {f : Addr} {fd : FuncData} {N ps : List Str} {k : Nat} {sp : Sp} (F : Fun K x qual st f fd) (S : FnScope N ps (defScope st)) (len : ∀ vs H Q E, sp vs H Q E → vs.length = ps.length)
    (hbody : ∀ (cdv : Value) (A : Around) (outer : List Env) (s : Shared) (H : Hp) (vs : List V) (Q : VK) (E : XK), Room k (A.deeper (envOfC qual (defScope st) s.heap.objs.size f cdv)) → sp vs H Q E →
      ∃ t, PSs (cxOf (L2N.CX P w) P w K mg base N qual (defScope st) f cdv A outer s H E) (defBody st) t ∧ t { nx := fun _ H' => Q .non H', rt := Q } (L2.start N vs) H) : FnOk P w K mg base (L2N.CX P w) (k + 1) f fd ps sp := by
  obtain ⟨oc, od, kV, doc, pm, an, cdv, ct, osl, rfl, lk, hcd⟩ := F.ex
  exact fn_of lk hcd S len fun A outer s H vs Q E hr hsp => hbody cdv A outer s H vs Q E hr hsp
end
section
variable {P : Program} {w : World} {K : PySem.W.Frag} {mg : Str → Option Value} {base : Heap} {a : Ad}
theorem g_allows (T : Txt K mg a) (G_atMost : FnG P w K mg base 84 a.f_atMost a.d_atMost ["self", "start", "limit", "known"] (sp_atMost a 27)) : FnG P w K mg base 85 a.f_allows a.d_allows ["self", "value"] (sp_allows a) := by
  refine okG T.F_allows sc_allows (fun vs H Q E h => ?_) (fun c pn cdv A outer s H vs Q E hc hr h => ?_)
  · obtain ⟨r, S, ws, v, rfl, _⟩ := h
    rfl
  · obtain ⟨r, S, ws, v, rfl, hd, ok, hw, hv, k⟩ := h
    refine ⟨_, (pss_one (ps_ret (pe_and (pe_cmpR op_gt (pv 1) pe_int (nomark _)) (pe_one (pe_cmpR op_eq (peg_meth hc (pv 0) T.cl_cRd T.e_atMost G_atMost (hr.mono (by omega)) T.b_atMost (pa_cons pe_int (pa_cons (pv 1) (pa_cons pe_dnewT pa_nil)))) (pv 1) (nomark _)))))), ?_⟩
    refine ⟨_, rfl, _, _, rfl, rfl, _, rfl, ?_⟩
    by_cases h0 : 0 < v
    · rw [decide_eq_true h0]
      refine iteT ⟨_, rfl, r.p, r.dx, _, rfl, hd.ob, rfl, _, rfl, fun kd hkd => ⟨r, S, ws, 0, v, kd, rfl, sr_new hd ok hw hkd, Nat.zero_le _, ?_, hv, fun x H' hx hk hs => ⟨_, rfl, rfl, k _ H' (same_of_kd hkd hk) ?_⟩⟩⟩
      · rw [lim_27]
        omega
      · rw [List.drop_zero] at hx
        rw [decide_eq_true_iff, ← hx.self (by omega)]
        constructor
        · intro e
          injection e
        · rintro rfl
          rfl
    · rw [decide_eq_false h0]
      refine iteF (k false H (.refl H) ⟨fun e => Bool.noConfusion e, fun p => ?_⟩)
      have := p.pos ok
      omega
theorem g_greatest (T : Txt K mg a) (G_atMost : FnG P w K mg base 84 a.f_atMost a.d_atMost ["self", "start", "limit", "known"] (sp_atMost a 27)) (G_endless' : FnG P w K mg base 1 a.f_endless a.d_endless ["self"] (sp_endless a))
    (G_bmax' : FnG P w K mg base 1 a.f_bmax a.d_bmax ["self"] (sp_bmax a)) (G_meanings' : FnG P w K mg base 1 a.f_meanings a.d_meanings ["self"] (sp_meanings a)) (G_isSpoken' : FnG P w K mg base 1 a.f_isSpoken a.d_isSpoken ["row", "count"] sp_isSpoken) : FnG P w K mg base 85 a.f_greatest a.d_greatest ["self"] (sp_greatest a) := by
  have G_endless := G_endless'.mono (k := 84) (by omega)
  have G_bmax := G_bmax'.mono (k := 84) (by omega)
  have G_meanings := G_meanings'.mono (k := 84) (by omega)
  have G_isSpoken := G_isSpoken'.mono (k := 84) (by omega)
  refine okG T.F_greatest sc_greatest (fun vs H Q E h => ?_) (fun c pn cdv A outer s H vs Q E hc hr h => ?_)
  · obtain ⟨r, S, ws, rfl, _⟩ := h
    rfl
  · obtain ⟨r, S, ws, rfl, hd, ok, hw, k⟩ := h
    refine ⟨_, (pss_cons (ps_set (i := 1) sc_greatest.nd rfl (Or.inl rfl) (peg_meth0 hc (fldK K (pv 0) rfl) T.cl_cSys T.e_endless G_endless (hr.mono (by omega)) T.b_endless))
      (pss_cons (ps_set (i := 2) sc_greatest.nd rfl (Or.inl rfl) (pe_callB (cg_max hc) (by rfl) T.z_max (by decide +kernel) (pa_cons (pe_lst (pa_cons (peg_meth0 hc (fldK K (pv 0) rfl) T.cl_cSys T.e_bmax G_bmax (hr.mono (by omega)) T.b_bmax) (pa_star (peg_meth0 hc (pv 0) T.cl_cRd T.e_meanings G_meanings (hr.mono (by omega)) T.b_meanings) pa_nil))) pa_nil)))
      (pss_cons (ps_if (pt_cmpR op_notN (pv 1) pe_non (nomark _)) (pss_one (ps_set (i := 2) sc_greatest.nd rfl (Or.inl rfl) (pe_callB (cg_max2 hc) (by rfl) T.z_max (by decide +kernel) (pa_cons (pv 2) (pa_cons (pe_ix (ixT K) (pv 1) pe_int (fun _ _ => rfl)) pa_nil))))) pss_nil)
      (pss_cons (ps_set (i := 3) sc_greatest.nd rfl (Or.inl rfl) (peg_meth hc (pv 0) T.cl_cRd T.e_atMost G_atMost (hr.mono (by omega)) T.b_atMost (pa_cons pe_int (pa_cons (pv 2) (pa_cons pe_dnewT pa_nil)))))
      (pss_one (ps_ret (pe_ifExp (PW.pt (pw_or (pt_cmpR op_eq (pv 3) pe_int (nomark _)) (pw_or1 (PW.pt (pw_and (pt_cmpR op_notN (pv 1) pe_non (nomark _)) (pw_and1 (pt_val (peg_call hc G_isSpoken (hr.mono (by omega)) (by rfl) T.m_isSpoken T.F_isSpoken.kp T.b_isSpoken (pa_cons (pv 1) (pa_cons (pv 3) pa_nil)))))))))) pe_non (pv 3)))))))), ?_⟩
    refine seq_gen (fun σ' H' => ∃ v, σ' = [some (.ref r.p), some v, none, none] ∧ H = H' ∧ ((∃ (i : Nat) (q : Addr) (row : Rw), v = .ref q ∧ r.s.ms[i]? = some q ∧ S.mult[i]? = some row ∧ row.most = none) ∨ (v = .non ∧ ∀ r ∈ S.mult, r.most ≠ none))) (fun R hR => ?_) ?_
    · refine ⟨_, rfl, r.p, a.cRd, r.dx, _, _, rfl, hd.ob, T.cl_cRd, T.n_cRd__system, fR_system, r.s.p, r.s.dx, _, rfl, hd.sys.ob, rfl, r.s, S, rfl, hd.sys, fun i q row e1 e2 e3 => hR _ _ ⟨_, rfl, rfl, .inl ⟨i, q, row, rfl, e1, e2, e3⟩⟩, fun h => hR _ _ ⟨_, rfl, rfl, .inr ⟨rfl, h⟩⟩⟩
    rintro σ' H' ⟨v, rfl, rfl, hv⟩
    refine seq_gen (fun σ' H' => ∃ L, σ' = [some (.ref r.p), some v, some (.int L), none] ∧ Same H H' ∧ (∃ m, BMx S m ∧ m ≤ L) ∧ (∀ n, Der S n ws → n ≤ L) ∧ (BMx S L ∨ Der S L ws)) (fun R hR => ?_) ?_
    · refine ⟨_, rfl, r.p, a.cRd, r.dx, _, _, rfl, hd.ob, T.cl_cRd, T.n_cRd__system, fR_system, r.s.p, r.s.dx, _, rfl, hd.sys.ob, rfl, r.s, S, rfl, hd.sys, ok, fun m H1 s1 bm => ?_⟩
      have hd1 := hd.same s1
      refine ⟨_, rfl, r.p, r.dx, _, rfl, hd1.ob, rfl, r, S, ws, rfl, hd1, ok, fun pm ms H2 s2 hm so => ⟨pm, _, rfl, .inl (SqT.of hm), ?_⟩⟩
      have hl : ms.length ≤ 1000000 := SortedOf.len (B := 1000000) so fun n d => d.small ok hw
      have e0 : V.int m :: (ms.map V.int ++ []) = (m :: ms).map V.int := by rw [List.append_nil]; rfl
      refine ⟨?_, fun p hp => ⟨p, m :: ms, rfl, SqL.of (upd_same.trans (by rw [e0])), Nat.succ_pos _, fun L hL hmx => hR _ _ ⟨L, rfl, (s1.trans s2).trans (same_upd _ hp), ⟨m, bm, hmx m List.mem_cons_self⟩, fun n d => hmx n (List.mem_cons_of_mem _ ((so.2 n).mpr d)), ?_⟩⟩⟩
      · rw [e0, List.length_map, List.length_cons]
        exact mil_line hl
      · rcases List.mem_cons.mp hL with e | e
        · exact .inl (e ▸ bm)
        · exact .inr ((so.2 L).mp e)
    rintro σ' H1 ⟨L, rfl, s1, hbm, hms, hat⟩
    have hd1 := hd.same s1
    refine seq_gen (fun σ' H' => ∃ L, σ' = [some (.ref r.p), some v, some (.int L), none] ∧ H1 = H' ∧ LimIs S ws L) (fun R hR => ?_) ?_
    · rcases hv with ⟨i, q, row, rfl, e1, e2, e3⟩ | ⟨rfl, hno⟩
      · have ho := hd1.sys.me i q row e1 e2
        have hrow : row ∈ S.mult := List.mem_of_getElem? e2
        have un : ∀ r' ∈ S.mult, r'.most = none → r' = row := fun r' h1 h2 => by
          obtain ⟨j, hj, e4⟩ := List.mem_iff_getElem.mp h1
          have h3 : S.mult[j]? = some r' := by rw [List.getElem?_eq_getElem hj, e4]
          have := ok.one i j row r' e2 h3 e3 h2
          subst this
          rw [e2] at h3
          exact (Option.some.inj h3).symm
        refine ⟨_, rfl, rfl, _, rfl, iteT ⟨_, rfl, _, rfl, q, _, 1, .int row.v, rfl, rfl, SqT.of ho, rfl, _, _, rfl, ?_⟩⟩
        by_cases hc : row.v > L
        · rw [if_pos hc]
          refine hR _ _ ⟨_, rfl, rfl, ?_, fun n d => ?_, fun r' h1 h2 => ?_, .inr (.inr ⟨row, hrow, e3, rfl⟩)⟩
          · obtain ⟨m, b, hm⟩ := hbm
            exact ⟨m, b, by omega⟩
          · have := hms n d
            omega
          · rw [un r' h1 h2]
            exact Int.le_refl _
        · rw [if_neg hc]
          refine hR _ _ ⟨_, rfl, rfl, hbm, hms, fun r' h1 h2 => ?_, hat.imp id .inl⟩
          rw [un r' h1 h2]
          omega
      · exact ⟨_, rfl, rfl, _, rfl, iteF (hR _ _ ⟨_, rfl, rfl, hbm, hms, (fun r' h1 h2 => absurd h2 (hno r' h1)), hat.imp id .inl⟩)⟩
    rintro σ' H' ⟨L, rfl, rfl, hL⟩
    have hLb := hL.hi ok hw
    refine ⟨_, rfl, r.p, r.dx, _, rfl, hd1.ob, rfl, _, rfl, fun kd hkd => ⟨r, S, ws, 0, L, kd, rfl, sr_new hd1 ok hw hkd, Nat.zero_le _, ?_, by omega, fun f H2 hf k2 hs2 => ?_⟩⟩
    · rw [lim_27]
      omega
    rw [List.drop_zero] at hf
    have s2 := s1.trans (same_of_kd hkd k2)
    have hd2 := hd.same s2
    have yes : (f = 0 ∨ EndSpoken S f) → Q (mostV none) H2 := fun h => k none H2 s2 ⟨L, f, hL, hf, fun _ => rfl, fun z => absurd h z⟩
    have no : ¬ (f = 0 ∨ EndSpoken S f) → Q (mostV (some f)) H2 := fun h => k (some f) H2 s2 ⟨L, f, hL, hf, fun z => absurd z h, fun _ => rfl⟩
    refine ⟨_, rfl, rfl, _, rfl, ?_⟩
    by_cases h0 : f = 0
    · rw [dint_t h0]
      exact iteT (iteT (yes (.inl h0)))
    · rw [dint_f h0]
      refine iteF ?_
      rcases hv with ⟨i, q, row, rfl, e1, e2, e3⟩ | ⟨rfl, hno⟩
      · have ho := hd2.sys.me i q row e1 e2
        have hrow : row ∈ S.mult := List.mem_of_getElem? e2
        refine ⟨_, rfl, rfl, _, rfl, iteT ⟨_, rfl, _, rfl, q, row, f, rfl, ho, _, rfl, ?_⟩⟩
        cases hb : spokenB row f with
        | true => exact iteT (yes (.inr ⟨row, hrow, e3, spokenB_iff.mp hb⟩))
        | false =>
          refine iteF ⟨_, rfl, no fun z => z.elim h0 ?_⟩
          rintro ⟨r', h1, h2, h3⟩
          obtain ⟨j, hj, e4⟩ := List.mem_iff_getElem.mp h1
          have h4 : S.mult[j]? = some r' := by rw [List.getElem?_eq_getElem hj, e4]
          have := ok.one i j row r' e2 h4 e3 h2
          subst this
          rw [e2] at h4
          cases h4
          rw [← spokenB_iff, hb] at h3
          cases h3
      · refine ⟨_, rfl, rfl, _, rfl, iteF (iteF ⟨_, rfl, no fun z => z.elim h0 ?_⟩)⟩
        rintro ⟨r', h1, h2, _⟩
        exact hno r' h1 h2
theorem g_least (T : Txt K mg a) (G_meanings : FnG P w K mg base 1 a.f_meanings a.d_meanings ["self"] (sp_meanings a)) : FnG P w K mg base 2 a.f_least a.d_least ["self"] (sp_least a) := by
  refine okG T.F_least sc_least (fun vs H Q E h => ?_) (fun c pn cdv A outer s H vs Q E hc hr h => ?_)
  · obtain ⟨r, S, ws, rfl, _⟩ := h
    rfl
  · obtain ⟨r, S, ws, rfl, hd, ok, hw, hne, k⟩ := h
    refine ⟨_, (pss_cons (ps_if (truthK K (fldK K (pv 0) rfl) (by intro _; rfl)) (pss_one (ps_ret (pe_ix (ixT K) (peg_meth0 hc (pv 0) T.cl_cRd T.e_meanings G_meanings (hr.mono (by omega)) T.b_meanings) pe_int (fun _ _ => rfl)))) pss_nil)
      (pss_cons (psg_setLc (i := 1) (own := [("_", 2), ("value", 3)]) hc sc_least.nd rfl rfl (sw_true rfl rfl rfl (by decide +kernel)) (pigT K (fldK K (fldK K (pv 0) rfl) rfl)) (blkOk_by (own := [("_", 2), ("value", 3)]) (N := ["self", "found", "_", "value", "row"]) (sc := defScope s_least) (by decide +kernel)) (fun _ _ _ _ _ => (pgT K 2 hc (pgs_cons (pg_name (i := 2) sc_least.nd rfl (.inl rfl)) (pgs_cons (pg_name (i := 3) sc_least.nd rfl (.inl rfl)) pgs_nil)))) (fun _ _ _ _ _ => pts_nil) (fun _ _ _ _ _ => (pv 3)))
      (pss_cons (ps_expr (pe_bm PySem.F.plainAttrs_list PySem.F.slot_list_extend PySem.F.type_list_extend mt_extend (pv 1) (pa_cons (peg_lc (own := [("row", 4)]) hc sc_least.nd (pigT K (fldK K (fldK K (pv 0) rfl) rfl)) (blkOk_by (own := [("row", 4)]) (N := ["self", "found", "_", "value", "row"]) (sc := defScope s_least) (by decide +kernel)) (fun _ _ _ _ _ => (pg_name (i := 4) sc_least.nd rfl (.inl rfl))) (fun _ _ _ _ _ => (pts_one (pt_val (pe_ix (ixT K) (pv 4) pe_int (fun _ _ => rfl))))) (fun _ _ _ _ _ => (pe_ix (ixT K) (pv 4) pe_int (fun _ _ => rfl)))) pa_nil)))
      (pss_one (ps_ret (pe_callBK (cg_minD hc) (by rfl) T.z_min (by decide +kernel) (pa_cons (pv 1) pa_nil) (pk_cons pe_non pk_nil))))))), ?_⟩
    by_cases e : ws = []
    · subst e
      refine ⟨_, rfl, r.p, a.cRd, r.dx, _, _, rfl, hd.ob, T.cl_cRd, T.n_cRd__words, fR_words, false, .inl ⟨_, SqL.of hd.la, rfl⟩, iteF ?_⟩
      refine ⟨_, rfl, r.p, a.cRd, r.dx, _, _, rfl, hd.ob, T.cl_cRd, T.n_cRd__system, fR_system, r.s.p, a.cSys, r.s.dx, _, _, rfl, hd.sys.ob, T.cl_cSys, T.n_cSys_simple, fS_simple, r.s.ts, rfl, ⟨_, SqT.of hd.sys.ts⟩, fun D hD => lc_tup (K := K) (a := r.s.ts) (xs := r.s.ps.map V.ref)
        (fun i H' => Same H H' ∧ H' D = some (.lst (((S.simple.take i).map (·.2)).map V.int))) ⟨same_upd _ hD, upd_same⟩ (fun i H' _ h => SqT.of (h.1 _ _ hd.sys.ts)) ?_ ?_⟩
      · rintro i x H' hx ⟨g1, g2⟩
        obtain ⟨q0, e, rfl, he, ho⟩ := hd.sys.srow hx
        refine ⟨q0, _, rfl, SqT.of (g1 _ _ ho), rfl, _, _, rfl, _, _, rfl, rfl, rfl, tYes_if ⟨_, rfl, _, g2, ?_, same_add g1 hD, ?_⟩⟩
        · rw [List.length_map, List.length_map, List.length_take]
          have := ok.ls
          exact small_len (by omega)
        · rw [upd_same, take_snoc he, List.map_append, List.map_append]
          rfl
      · rintro H1 ⟨g1, g2⟩
        rw [List.length_map, hd.sys.pl, List.take_length] at g2
        have hd1 := hd.same g1
        refine ⟨_, rfl, .inl ⟨rfl, _, SqL.of g2⟩, _, rfl, r.p, a.cRd, r.dx, _, _, rfl, hd1.ob, T.cl_cRd, T.n_cRd__system, fR_system, r.s.p, a.cSys, r.s.dx, _, _, rfl, hd1.sys.ob, T.cl_cSys, T.n_cSys_multipliers, fS_mult, r.s.tm, rfl, ⟨_, SqT.of hd1.sys.tm⟩, fun D2 hD2 => lc_tup (K := K) (a := r.s.tm) (xs := r.s.ms.map V.ref)
          (fun i H' => Same H1 H' ∧ H' D2 = some (.lst ((((S.mult.take i).filter (·.uns)).map (·.v)).map V.int))) ⟨same_upd _ hD2, upd_same⟩ (fun i H' _ h => SqT.of (h.1 _ _ hd1.sys.tm)) ?_ ?_⟩
        · rintro i x H' hx ⟨g3, g4⟩
          obtain ⟨q, row, rfl, hq, hr', ho⟩ := hd1.sys.row hx
          have ho' := g3 _ _ ho
          refine ⟨rfl, _, rfl, q, _, 3, .bl row.uns, rfl, rfl, SqT.of ho', rfl, row.uns, rfl, ?_⟩
          cases hu : row.uns with
          | false =>
            refine iteF ⟨g3, ?_⟩
            rw [g4, take_snoc hr', List.filter_append]
            simp [hu]
          | true =>
            refine iteT ⟨_, rfl, q, _, 1, .int row.v, rfl, rfl, SqT.of ho', rfl, _, g4, ?_, same_add g3 hD2, ?_⟩
            · rw [List.length_map, List.length_map]
              have h1 : ((S.mult.take i).filter (·.uns)).length ≤ (S.mult.take i).length := List.length_filter_le _ _
              rw [List.length_take] at h1
              have := ok.lm
              exact small_len (by omega)
            · rw [upd_same, take_snoc hr', List.filter_append, List.map_append, List.map_append]
              simp [hu]
        · rintro H2 ⟨g3, g4⟩
          rw [List.length_map, hd1.sys.ml, List.take_length] at g4
          have g5 := g3 _ _ g2
          have s2 : Same H (upd H2 D (.lst (List.map V.int (S.simple.map (·.2)) ++ List.map V.int ((S.mult.filter (·.uns)).map (·.v))))) := same_add (g1.trans g3) hD
          have e1 : (List.map V.int (S.simple.map (·.2)) ++ List.map V.int ((S.mult.filter (·.uns)).map (·.v))) = (S.simple.map (·.2) ++ (S.mult.filter (·.uns)).map (·.v)).map V.int := by rw [List.map_append]
          refine ⟨D, D2, _, _, rfl, rfl, g5, g4, ?_, _, rfl, D, S.simple.map (·.2) ++ (S.mult.filter (·.uns)).map (·.v), _, rfl, rfl, SqL.of (by rw [← e1]; exact upd_same), fun h0 => ?_, fun m hm hle => ?_⟩
          · rw [List.length_map, List.length_map, List.length_map, List.length_map]
            have h1 : (S.mult.filter (·.uns)).length ≤ S.mult.length := List.length_filter_le _ _
            have := ok.lm
            have := ok.ls
            exact Nat.le_of_lt (small_len (by omega))
          · refine k none _ s2 ⟨fun z => absurd rfl z, (fun _ v e => nomatch e), fun _ _ => ⟨?_, fun r' hr' => ?_⟩⟩
            · exact List.map_eq_nil_iff.mp (List.append_eq_nil_iff.mp h0).1
            · have h1 := List.map_eq_nil_iff.mp (List.append_eq_nil_iff.mp h0).2
              have h2 := List.filter_eq_nil_iff.mp h1 r' hr'
              simpa using h2
          · refine k (some m) _ s2 ⟨fun z => absurd rfl z, fun _ v e => ?_, (fun _ e => nomatch e)⟩
            cases e
            refine ⟨?_, fun e he => hle _ (List.mem_append_left _ (List.mem_map.mpr ⟨e, he, rfl⟩)), fun r' hr' hu => hle _ (List.mem_append_right _ (List.mem_map.mpr ⟨r', List.mem_filter.mpr ⟨hr', hu⟩, rfl⟩))⟩
            rcases List.mem_append.mp hm with z | z
            · obtain ⟨e, he, rfl⟩ := List.mem_map.mp z
              exact .inl ⟨e.1, he⟩
            · obtain ⟨r', hr', rfl⟩ := List.mem_map.mp z
              exact .inr ⟨r', (List.mem_filter.mp hr').1, (List.mem_filter.mp hr').2, rfl⟩
    · have hl0 : (!(ws.map V.str).isEmpty) = true := by
        cases ws with
        | nil => exact absurd rfl e
        | cons x l => rfl
      refine ⟨_, rfl, r.p, a.cRd, r.dx, _, _, rfl, hd.ob, T.cl_cRd, T.n_cRd__words, fR_words, true, .inl ⟨_, SqL.of hd.la, hl0.symm⟩, iteT ?_⟩
      refine ⟨_, rfl, r.p, r.dx, _, rfl, hd.ob, rfl, r, S, ws, rfl, hd, ok, fun pm ms H1 s1 hm so => ?_⟩
      obtain ⟨n0, hn0⟩ := hne e
      have hmem := (so.2 n0).mpr hn0
      cases hms : ms with
      | nil =>
        rw [hms] at hmem
        cases hmem
      | cons v t =>
        rw [hms] at hm so
        refine ⟨pm, _, 0, .int v, rfl, rfl, SqT.of hm, atI_nat (j := 0) rfl, k (some v) H1 s1 ⟨fun _ => ⟨v, rfl, (so.2 v).mp List.mem_cons_self, fun n d => ?_⟩, fun z => absurd z e, fun z => absurd z e⟩⟩
        rcases List.mem_cons.mp ((so.2 n).mpr d) with z | z
        · omega
        · have := (List.pairwise_cons.mp so.1).1 n z
          omega
theorem g_bounds (T : Txt K mg a) (G_least' : FnG P w K mg base 2 a.f_least a.d_least ["self"] (sp_least a)) (G_greatest : FnG P w K mg base 85 a.f_greatest a.d_greatest ["self"] (sp_greatest a)) (G_meanings' : FnG P w K mg base 1 a.f_meanings a.d_meanings ["self"] (sp_meanings a)) :
    FnG P w K mg base 86 a.f_bounds a.d_bounds ["self"] (sp_bounds a) := by
  have G_least := G_least'.mono (k := 85) (by omega)
  have G_meanings := G_meanings'.mono (k := 85) (by omega)
  refine okG T.F_bounds sc_bounds (fun vs H Q E h => ?_) (fun c pn cdv A outer s H vs Q E hc hr h => ?_)
  · obtain ⟨r, S, ws, rfl, _⟩ := h
    rfl
  · obtain ⟨r, S, ws, rfl, hd, ok, hw, hne, k⟩ := h
    refine ⟨_, (pss_one (ps_ret (pe_tup (pa_cons (peg_meth0 hc (pv 0) T.cl_cRd T.e_least G_least (hr.mono (by omega)) T.b_least) (pa_cons (peg_meth0 hc (pv 0) T.cl_cRd T.e_greatest G_greatest (hr.mono (by omega)) T.b_greatest) (pa_cons (peg_meth0 hc (pv 0) T.cl_cRd T.e_meanings G_meanings (hr.mono (by omega)) T.b_meanings) pa_nil)))))), ?_⟩
    refine ⟨_, rfl, r.p, r.dx, _, rfl, hd.ob, rfl, r, S, ws, rfl, hd, ok, hw, hne, fun l H1 s1 hl => ?_⟩
    have hd1 := hd.same s1
    refine ⟨_, rfl, r.p, r.dx, _, rfl, hd1.ob, rfl, r, S, ws, rfl, hd1, ok, hw, fun g H2 s2 hg => ?_⟩
    have hd2 := hd1.same s2
    refine ⟨_, rfl, r.p, r.dx, _, rfl, hd2.ob, rfl, r, S, ws, rfl, hd2, ok, fun pm ms H3 s3 hm so => ⟨z3, fun p hp => ?_⟩⟩
    exact k p l g pm ms _ (((s1.trans s2).trans s3).trans (same_upd _ hp)) ⟨upd_same, (same_upd _ hp) _ _ hm, hl, hg, so⟩
theorem g_pop (T : Txt K mg a) (G_drop' : FnOk P w K mg base CX0 4 a.f_drop a.d_drop ["self"] (sp_drop a)) (G_bounds : FnG P w K mg base 86 a.f_bounds a.d_bounds ["self"] (sp_bounds a)) : FnOk P w K mg base CX0 87 a.f_pop a.d_pop ["self"] (sp_pop a) := by
  have G_drop := G_drop'.mono (k := 86) (by omega)
  refine T.F_pop.ok sc_pop (fun vs H Q E h => ?_) (fun cdv A outer s H vs Q E hr h => ?_)
  · obtain ⟨r, S, ws, w, rfl, _⟩ := h
    rfl
  · obtain ⟨r, S, ws, w, rfl, hd, ok, hw, hne, k⟩ := h
    refine ⟨_, (pss_cons (ps_if (pt_not (truthK K (fldK K (pv 0) rfl) (by intro _; rfl))) (pss_one ps_never) pss_nil)
      (pss_cons (ps_expr (pe_meth0 (pv 0) T.cl_cRd T.e_drop G_drop (hr.mono (by omega)) T.b_drop .nil pass0))
      (pss_one (ps_ret (peg_meth0 (.inl rfl) (pv 0) T.cl_cRd T.e_bounds G_bounds ((roomH_of hr).mono (by omega)) T.b_bounds))))), ?_⟩
    refine ⟨_, rfl, r.p, a.cRd, r.dx, _, _, rfl, hd.ob, T.cl_cRd, T.n_cRd__words, fR_words, true, .inl ⟨_, SqL.of hd.la, ?_⟩, iteF ?_⟩
    · rw [List.map_append]
      cases ws <;> rfl
    refine ⟨_, rfl, r.p, r.dx, _, rfl, hd.ob, rfl, r, S, ws, w, rfl, hd, ok, hw, fun H1 k1 hd1 => ?_⟩
    refine ⟨_, rfl, r.p, r.dx, _, rfl, hd1.ob, rfl, r, S, ws, rfl, hd1, ok, by omega, hne, fun p l g pm ms H2 s2 hb => ?_⟩
    exact k p l g pm ms H2 (k1.trans (.of_same s2)) (hd1.same s2) hb
theorem g_push (T : Txt K mg a) (G_add' : FnOk P w K mg base CX0 4 a.f_add a.d_add ["self", "word"] (sp_add a)) (G_drop' : FnOk P w K mg base CX0 4 a.f_drop a.d_drop ["self"] (sp_drop a)) (G_bounds : FnG P w K mg base 86 a.f_bounds a.d_bounds ["self"] (sp_bounds a))
    (G_meanings' : FnG P w K mg base 1 a.f_meanings a.d_meanings ["self"] (sp_meanings a)) (G_sysWords' : FnG P w K mg base 1 a.f_sysWords a.d_sysWords ["self"] (sp_sysWords a)) : FnOk P w K mg base (L2N.CX P w) 87 a.f_push a.d_push ["self", "word"] (sp_push a) := by
  have G_add := G_add'.mono (k := 86) (by omega)
  have G_drop := G_drop'.mono (k := 86) (by omega)
  have G_meanings := G_meanings'.mono (k := 86) (by omega)
  have G_sysWords := G_sysWords'.mono (k := 86) (by omega)
  refine okN T.F_push sc_push (fun vs H Q E h => ?_) (fun cdv A outer s H vs Q E hr h => ?_)
  · obtain ⟨r, S, ws, w, rfl, _⟩ := h
    rfl
  · obtain ⟨r, S, ws, w, rfl, hd, ok, hw, hin, hav, kq, ke⟩ := h
    refine ⟨_, (pss_cons (ps_if (pt_cmpR (notInSeq K) (pv 1) (peg_meth0 (.inl rfl) (fldK K (pv 0) rfl) T.cl_cSys T.e_sysWords G_sysWords ((roomH_of hr).mono (by omega)) T.b_sysWords) (by rfl)) (pss_one ps_never) pss_nil)
      (pss_cons (ps_if (pt_cmpR op_ge (pe_callB (lenSeq K) (by rfl) T.z_len (by decide +kernel) (pa_cons (fldK K (pv 0) rfl) pa_nil)) (pe_gc (by rfl) T.k_MOST_WORDS) (nomark _)) (pss_one ps_never) pss_nil)
      (pss_cons (ps_expr (pe_meth (pv 0) T.cl_cRd T.e_add G_add (hr.mono (by omega)) T.b_add .nil pass0 (pa_cons (pv 1) pa_nil)))
      (pss_cons (ps_if (pt_not (truthK K (peg_meth0 (.inl rfl) (pv 0) T.cl_cRd T.e_meanings G_meanings ((roomH_of hr).mono (by omega)) T.b_meanings) (by intro _; rfl))) (pss_cons (ps_expr (pe_meth0 (pv 0) T.cl_cRd T.e_drop G_drop (hr.mono (by omega)) T.b_drop .nil pass0))
      (pss_one (L2N.ps_raise rfl (L2N.takes_of rfl rfl rfl rfl) (pmk_bare PySem.F.excBase_ValueError T.xNP T.gNP T.kNP (raises_own T.bNP T.tNP) (by rfl))))) pss_nil)
      (pss_one (ps_ret (peg_meth0 (.inl rfl) (pv 0) T.cl_cRd T.e_bounds G_bounds ((roomH_of hr).mono (by omega)) T.b_bounds))))))), ?_⟩
    refine ⟨_, rfl, _, rfl, r.p, a.cRd, r.dx, _, _, rfl, hd.ob, T.cl_cRd, T.n_cRd__system, fR_system, r.s.p, r.s.dx, _, rfl, hd.sys.ob, rfl, r.s, S, rfl, hd.sys, ok, fun pw H1 s1 hpw => ?_⟩
    have hd1 := hd.same s1
    have hinw : inV (.str w) ((allWords S).map V.str) = true := inV_strs hin
    refine ⟨pw, _, rfl, .inr (SqT.of hpw), rfl, flat_strs _, _, rfl, ?_⟩
    rw [hinw]
    refine iteF ⟨_, rfl, r.p, a.cRd, r.dx, _, _, rfl, hd1.ob, T.cl_cRd, T.n_cRd__words, fR_words, _, _, rfl, .inl (SqL.of hd1.la), _, _, rfl, rfl, _, rfl, ?_⟩
    rw [List.length_map, decide_eq_false (show ¬ (24 : Int) ≤ (ws.length : Int) by omega)]
    have hav1 : ∀ b ∈ r.av, H1 b ≠ none := fun b hb e => hav b hb (s1.free e)
    refine iteF ⟨_, rfl, r.p, r.dx, _, rfl, hd1.ob, rfl, _, rfl, r, S, ws, w, rfl, hd1, ok, hw, hav1, fun H2 k2 hd2 => ?_⟩
    refine ⟨_, rfl, r.p, r.dx, _, rfl, hd2.ob, rfl, r, S, ws ++ [w], rfl, hd2, ok, fun pm ms H3 s3 hm so => ?_⟩
    have hd3 := hd2.same s3
    have k3 : Kp [r.la, r.va] H H3 := ((Kp.of_same s1).trans k2).trans (.of_same s3)
    refine ⟨!(ms.map V.int).isEmpty, .inr (.inl ⟨_, SqT.of hm, rfl⟩), ?_⟩
    cases ms with
    | nil => exact iteT ⟨_, rfl, r.p, r.dx, _, rfl, hd3.ob, rfl, r, S, ws, w, rfl, hd3, ok, hw, fun H4 k4 hd4 => ke H4 (fun n d => nomatch (so.2 n).mpr d) (k3.trans k4) hd4⟩
    | cons v t =>
      have dv := (so.2 v).mp List.mem_cons_self
      refine iteF ⟨_, rfl, r.p, r.dx, _, rfl, hd3.ob, rfl, r, S, ws ++ [w], rfl, hd3, ok, ?_, fun _ => ⟨v, dv⟩, fun p l g pm ms H4 s4 hb => kq p l g pm ms H4 ⟨v, dv⟩ (k3.trans (.of_same s4)) (hd3.same s4) hb⟩
      rw [List.length_append, List.length_singleton]
      omega
end
end K30
set_option Elab.async false
set_option linter.all false
set_option maxRecDepth 100000
set_option maxHeartbeats 4000000
/-! K30S: a System is made. -/
namespace K30
open PySem PySem.Spec PyProof.Rows L2 L2H
open StX (pa_star)
open C8 (pe_gc)
def letters : Str := "abcdefghijklmnopqrstuvwxyz"
def WordOk (w : Str) : Prop := 1 ≤ w.length ∧ w.length ≤ 8 ∧ ∀ c ∈ w.cps.toList, c ∈ letters.cps.toList
/-- two lists of rows -/
structure RowsAt (H : Hp) (la lb : Addr) (ps ms : List Addr) (S : SyS) : Prop where
  l1 : H la = some (.lst (ps.map V.ref))
  pl : ps.length = S.simple.length
  pe : ∀ (i : Nat) (q : Addr) (e : Str × Int), ps[i]? = some q → S.simple[i]? = some e → H q = some (.tup [.str e.1, .int e.2])
  l2 : H lb = some (.lst (ms.map V.ref))
  ml : ms.length = S.mult.length
  me : ∀ (i : Nat) (q : Addr) (r : Rw), ms[i]? = some q → S.mult[i]? = some r → H q = some (.tup (rowV r))
theorem RowsAt.same {H H' : Hp} {la lb : Addr} {ps ms : List Addr} {S : SyS} (h : RowsAt H la lb ps ms S) (k : Same H H') : RowsAt H' la lb ps ms S :=
  ⟨k _ _ h.l1, h.pl, fun i q e a b => k _ _ (h.pe i q e a b), k _ _ h.l2, h.ml, fun i q e a b => k _ _ (h.me i q e a b)⟩
/-- the words of the rows are words -/
def WordsOk (S : SyS) : Prop := ∀ w ∈ allWords S, WordOk w
def SeenAt (H : Hp) (sd : Addr) (names : List Str) : Prop := ∃ kvs : List (L2.Key × V), H sd = some (.dK kvs) ∧ kvs.length ≤ names.length ∧ ∀ w, w ∉ names → valV kvs (Sum.inr w : L2.Key) = none
theorem SeenAt.same {H H' : Hp} {sd : Addr} {names : List Str} (h : SeenAt H sd names) (k : Same H H') : SeenAt H' sd names := by
  obtain ⟨kvs, e1, e2⟩ := h
  exact ⟨kvs, k _ _ e1, e2⟩
def sp_isWord : Sp := fun vs H Q _ => ∃ w, vs = [.str w] ∧ WordOk w ∧ ∀ H', Same H H' → Q (.bl true) H'
def sp_simpleFault : Sp := fun vs H Q _ => ∃ (q : Addr) (w : Str) (v : Int), vs = [.ref q] ∧ H q = some (.tup [.str w, .int v]) ∧ WordOk w ∧ 1 ≤ v ∧ v ≤ 8 ∧ ∀ H', Same H H' → Q .non H'
def sp_multFault : Sp := fun vs H Q _ => ∃ (q : Addr) (r : Rw), vs = [.ref q] ∧ H q = some (.tup (rowV r)) ∧ WordOk r.w ∧ (2 ≤ r.v ∧ r.v ≤ 9) ∧ (∀ c, r.most = some c → 1 ≤ c ∧ c ≤ 4) ∧ (0 ≤ r.rest ∧ r.rest < r.v) ∧ ∀ H', Same H H' → Q .non H'
def sp_checkRows : Sp := fun vs H Q _ => ∃ (la lb : Addr) (ps ms : List Addr) (S : SyS), RowsAt H la lb ps ms S ∧ S.Ok ∧ WordsOk S ∧ (vs = [.str "simple", .ref la, .int 24] ∨ vs = [.str "multipliers", .ref lb, .int 6]) ∧ ∀ H', Same H H' → Q .non H'
def sp_checkWords : Sp := fun vs H Q _ => ∃ (la lb : Addr) (ps ms : List Addr) (S : SyS), vs = [.ref la, .ref lb] ∧ RowsAt H la lb ps ms S ∧ S.Ok ∧ ∀ H', Same H H' → Q .non H'
def sp_checkEndless : Sp := fun vs H Q _ => ∃ (la lb : Addr) (ps ms : List Addr) (S : SyS), vs = [.ref lb] ∧ RowsAt H la lb ps ms S ∧ S.Ok ∧ ∀ H', Same H H' → Q .non H'
def sp_sysInit (a : Ad) : Sp := fun vs H Q _ => ∃ (x dx la lb : Addr) (ps ms : List Addr) (S : SyS), vs = [.ref x, .ref la, .ref lb] ∧ H x = some (.ins a.cSys dx []) ∧ RowsAt H la lb ps ms S ∧ S.Ok ∧ WordsOk S ∧
  ∀ (s : SA) H', s.p = x → Kp [x] H H' → SysAt a.cSys H' s S → Q .non H'
theorem fld_kp {H : Hp} {x : Addr} (o : HO) : Kp [x] H (upd H x o) := fun b u e hb => by
  rw [upd_ne (by simpa using hb)]
  exact e
theorem kp_get {H H' : Hp} {x b C dx : Addr} {fs : List (Str × V)} {o : HO} (k : Kp [x] H H') (hx : H x = some (.ins C dx fs)) (e : H b = some o) (ne : ∀ C d f, o ≠ .ins C d f) : H' b = some o := k _ _ e (by
  rw [List.mem_singleton]
  intro z
  rw [z, hx] at e
  exact ne _ _ _ (Option.some.inj e).symm)
def rTupOf (K : PySem.W.Frag) : List V → Hp → VK → Prop := fun xs H Q => ∃ p ys, xs = [V.ref p] ∧ ((SqL K H p ys ∧ ∀ l, H l = none → Q (V.ref l) (upd H l (.tup ys))) ∨ (SqT K H p ys ∧ Q (V.ref p) H))
/-- tuple([tuple(row) for row in rows]), the rows tuples already -/
theorem tup_rows {K : PySem.W.Frag} {H : Hp} {x0 xa xb : V} {j : Nat} {la : Addr} {qs : List Addr} {Q : VK} (hj : [some x0, some xa, some xb, none][j]? = some (some (V.ref la))) (hl : H la = some (.lst (qs.map V.ref))) (hq : ∀ q ∈ qs, ∃ ys, H q = some (.tup ys)) (hz : qs.length ≤ 1000)
    (k : ∀ t H', Same H H' → H' t = some (.tup (qs.map V.ref)) → Q (.ref t) H') :
    tCB (rTupOf K) (tCons (tLc (iList K (tVar j)) (gName 3) tYes (tCB (rTupOf K) (tCons (tVar 3) tNil)) [3]) tNil) [some x0, some xa, some xb, none] H Q := by
  refine ⟨_, hj, la, rfl, ⟨_, SqL.of hl⟩, fun D hD => lc_list (K := K) (a := la) (xs := qs.map V.ref) (fun i H' => Same H H' ∧ H' D = some (.lst ((qs.take i).map V.ref))) ⟨same_upd _ hD, upd_same⟩ (fun i H' _ g => SqL.of (g.1 _ _ hl)) ?_ ?_⟩
  · rintro i x H1 hx ⟨g1, g2⟩
    rw [List.getElem?_map] at hx
    obtain ⟨q, hq', rfl⟩ := Option.map_eq_some_iff.mp hx
    obtain ⟨ys, hys⟩ := hq q (List.mem_of_getElem? hq')
    refine ⟨rfl, tYes_if ⟨_, rfl, q, ys, rfl, .inr ⟨SqT.of (g1 _ _ hys), _, g2, ?_, same_add g1 hD, ?_⟩⟩⟩
    · rw [List.length_map, List.length_take]
      exact small_len (by omega)
    · rw [upd_same, take_snoc hq', List.map_append]
      rfl
  · rintro H1 ⟨g1, g2⟩
    rw [List.length_map, List.take_length] at g2
    exact ⟨D, _, rfl, .inl ⟨SqL.of g2, fun l hl2 => k l _ (g1.trans (same_upd _ hl2)) upd_same⟩⟩
section
variable {P : Program} {w : World} {K : PySem.W.Frag} {mg : Str → Option Value} {base : Heap} {a : Ad}
theorem g_isWord (T : Txt K mg a) : FnOk P w K mg base CX0 1 a.f_isWord a.d_isWord ["text"] sp_isWord := by
  refine T.F_isWord.ok sc_isWord (fun vs H Q E h => ?_) (fun cdv A outer s H vs Q E hr h => ?_)
  · obtain ⟨w, rfl, _⟩ := h
    rfl
  · obtain ⟨w, rfl, ⟨h1, h2, h3⟩, k⟩ := h
    refine ⟨_, (pss_one (ps_ret (pe_and (pe_chain op_le op_le pe_int (pe_callB call_len_str (by rfl) T.z_len (by decide +kernel) (pa_cons (pv 0) pa_nil)) (pe_gc (by rfl) T.k_MOST_LETTERS)) (pe_one (pe_callB (cg_all (.inl rfl)) (by rfl) T.z_all (by decide +kernel) (pa_cons (pe_lc (own := [("letter", 1)]) rfl sc_isWord.nd (pi_str (pv 0)) (blkOk_by (own := [("letter", 1)]) (N := ["text", "letter"]) (sc := defScope s_isWord) (by decide +kernel)) (fun _ _ _ _ _ => (pg_name (i := 1) sc_isWord.nd rfl (.inl rfl))) (fun _ _ _ _ _ => pts_nil) (fun _ _ _ _ _ => (pe_cmpR op_in_sign (pv 1) (pe_gc (by rfl) T.k_LETTERS) (by rfl)))) pa_nil)))))), ?_⟩
    have hz : w.length ≤ sizeLine := Nat.le_of_lt (small_len (by omega))
    refine ⟨_, rfl, w, rfl, hz, _, _, rfl, rfl, _, rfl, ?_⟩
    rw [decide_eq_true (show (1 : Int) ≤ (w.length : Int) by omega)]
    refine iteT ⟨_, _, rfl, rfl, _, rfl, ?_⟩
    rw [decide_eq_true (show (w.length : Int) ≤ 8 by omega)]
    refine iteT ⟨_, rfl, w, rfl, fun D hD => lc_it walk_str (fun i H' => Same H H' ∧ H' D = some (.lst ((List.replicate i true).map V.bl))) ⟨same_upd _ hD, upd_same⟩ (fun _ _ _ _ => trivial) ?_ ?_⟩
    · rintro i x H1 H2 hi ⟨g1, g2⟩ ⟨rfl, c, hc, rfl⟩
      have hcl : c ∈ letters.cps.toList := h3 c (Array.mem_toList_iff.mpr (Array.mem_of_getElem? hc))
      refine ⟨rfl, tYes_if ⟨_, rfl, c, _, rfl, rfl, _, g2, ?_, same_add g1 hD, ?_⟩⟩
      · rw [List.length_map, List.length_replicate]
        have : w.length = w.cps.size := rfl
        exact small_len (by omega)
      · rw [upd_same, List.replicate_succ', List.map_append]
        rw [decide_eq_true (show c ∈ (Str.ofString "abcdefghijklmnopqrstuvwxyz").cps.toList from hcl)]
        rfl
    · rintro H1 ⟨g1, g2⟩
      refine ⟨D, _, rfl, SqL.of g2, ?_⟩
      have e : (List.replicate w.cps.size true).all id = true := by
        rw [List.all_eq_true]
        intro x hx
        rw [List.eq_of_mem_replicate hx]
        rfl
      rw [e]
      exact k H1 g1
theorem g_simpleFault (T : Txt K mg a) (G_isWord : FnOk P w K mg base CX0 1 a.f_isWord a.d_isWord ["text"] sp_isWord) : FnOk P w K mg base CX0 2 a.f_simpleFault a.d_simpleFault ["row"] sp_simpleFault := by
  refine T.F_simpleFault.ok sc_simpleFault (fun vs H Q E h => ?_) (fun cdv A outer s H vs Q E hr h => ?_)
  · obtain ⟨q, w, v, rfl, _⟩ := h
    rfl
  · obtain ⟨q, w, v, rfl, hq, hw, h1, h2, k⟩ := h
    refine ⟨_, (pss_cons (ps_if (pt_cmpR op_ne (pe_callB (lenSeq K) (by rfl) T.z_len (by decide +kernel) (pa_cons (pv 0) pa_nil)) pe_int (nomark _)) (pss_one (ps_ret pe_str)) pss_nil)
      (pss_cons (ps_if (pt_not (pt_val (pe_call G_isWord (hr.mono (by omega)) (by rfl) T.m_isWord T.F_isWord.kp T.b_isWord .nil pass0 (pa_cons (pe_ix (ixT K) (pv 0) pe_int (fun _ _ => rfl)) pa_nil)))) (pss_one (ps_ret pe_str)) pss_nil)
      (pss_one (ps_ret (pe_ifExp (pt_chain op_le op_le pe_int (pe_ix (ixT K) (pv 0) pe_int (fun _ _ => rfl)) (pe_gc (by rfl) T.k_MOST_VALUE)) pe_non pe_str))))), ?_⟩
    refine ⟨_, rfl, q, _, rfl, .inr (SqT.of hq), rfl, _, rfl, iteF ?_⟩
    refine ⟨_, rfl, q, _, 0, .str w, rfl, rfl, SqT.of hq, rfl, w, rfl, hw, fun H1 s1 => ⟨_, rfl, iteF ?_⟩⟩
    have hq1 := s1 _ _ hq
    refine ⟨_, rfl, q, _, 1, .int v, rfl, rfl, SqT.of hq1, rfl, _, _, rfl, rfl, _, rfl, ?_⟩
    rw [decide_eq_true h1]
    refine iteT ⟨_, _, rfl, rfl, _, rfl, ?_⟩
    rw [decide_eq_true (show v ≤ 100000 by omega)]
    exact iteT (k H1 s1)
theorem g_multFault (T : Txt K mg a) (G_isWord : FnOk P w K mg base CX0 1 a.f_isWord a.d_isWord ["text"] sp_isWord) : FnOk P w K mg base CX0 2 a.f_multFault a.d_multFault ["row"] sp_multFault := by
  refine T.F_multFault.ok sc_multFault (fun vs H Q E h => ?_) (fun cdv A outer s H vs Q E hr h => ?_)
  · obtain ⟨q, r, rfl, _⟩ := h
    rfl
  · obtain ⟨q, r, rfl, hq, hw, hv, hm, hr', k⟩ := h
    refine ⟨_, (pss_cons (ps_if (pt_cmpR op_ne (pe_callB (lenSeq K) (by rfl) T.z_len (by decide +kernel) (pa_cons (pv 0) pa_nil)) pe_int (nomark _)) (pss_one (ps_ret pe_str)) pss_nil)
      (pss_cons (ps_asg (pv 0) (pgT K 5 (.inl rfl) (pgs_cons (pg_name (i := 1) sc_multFault.nd rfl (.inl rfl)) (pgs_cons (pg_name (i := 2) sc_multFault.nd rfl (.inl rfl)) (pgs_cons (pg_name (i := 3) sc_multFault.nd rfl (.inl rfl)) (pgs_cons (pg_name (i := 4) sc_multFault.nd rfl (.inl rfl)) (pgs_cons (pg_name (i := 5) sc_multFault.nd rfl (.inl rfl)) pgs_nil)))))))
      (pss_cons (ps_if (pt_not (pt_val (pe_call G_isWord (hr.mono (by omega)) (by rfl) T.m_isWord T.F_isWord.kp T.b_isWord .nil pass0 (pa_cons (pv 1) pa_nil)))) (pss_one (ps_ret pe_str)) pss_nil)
      (pss_cons (ps_if (pt_not (pt_chain op_le op_le pe_int (pv 2) (pe_gc (by rfl) T.k_MOST_VALUE))) (pss_one (ps_ret pe_str)) pss_nil)
      (pss_cons (ps_if (PW.pt (pw_and (pt_cmpR op_notN (pv 3) pe_non (nomark _)) (pw_and1 (pt_not (pt_chain op_le op_le pe_int (pv 3) (pe_gc (by rfl) T.k_MOST_VALUE)))))) (pss_one (ps_ret pe_str)) pss_nil)
      (pss_cons (ps_if (pt_not (pt_chain op_le op_lt pe_int (pv 5) (pv 2))) (pss_one (ps_ret pe_str)) pss_nil)
      (pss_cons (ps_if (PW.pt (pw_and (pt_cmpR op_notN (pv 3) pe_non (nomark _)) (pw_and1 (pt_cmpR op_gt (pe_op op_add (pe_op op_mul (pv 3) (pv 2)) (pv 5)) (pe_gc (by rfl) T.k_MOST_VALUE) (nomark _))))) (pss_one (ps_ret pe_str)) pss_nil)
      (pss_one (ps_ret pe_non))))))))), ?_⟩
    obtain ⟨rw', v, most, uns, rest⟩ := r
    dsimp only at hw hv hm hr'
    refine ⟨_, rfl, q, _, rfl, .inr (SqT.of hq), rfl, _, rfl, iteF ?_⟩
    refine ⟨_, rfl, q, _, rfl, SqT.of hq, rfl, _, _, rfl, _, _, rfl, _, _, rfl, _, _, rfl, _, _, rfl, rfl, ?_⟩
    refine ⟨_, rfl, rw', rfl, hw, fun H1 s1 => ⟨_, rfl, iteF ?_⟩⟩
    refine ⟨_, rfl, _, _, rfl, rfl, _, rfl, ?_⟩
    rw [decide_eq_true hv.1]
    refine iteT ⟨_, _, rfl, rfl, _, rfl, ?_⟩
    rw [decide_eq_true (show v ≤ 100000 by have := hv.2; omega)]
    refine iteF ?_
    cases most with
    | none =>
      refine ⟨_, rfl, rfl, _, rfl, iteF (iteF ?_)⟩
      refine ⟨_, rfl, _, _, rfl, rfl, _, rfl, ?_⟩
      rw [decide_eq_true hr'.1]
      refine iteT ⟨_, rfl, _, _, rfl, rfl, _, rfl, ?_⟩
      rw [decide_eq_true hr'.2]
      exact iteF ⟨_, rfl, rfl, _, rfl, iteF (iteF (k H1 s1))⟩
    | some c =>
      have hc := hm c rfl
      refine ⟨_, rfl, rfl, _, rfl, iteT ⟨_, rfl, _, _, rfl, rfl, _, rfl, ?_⟩⟩
      rw [decide_eq_true hc.1]
      refine iteT ⟨_, _, rfl, rfl, _, rfl, ?_⟩
      rw [decide_eq_true (show c ≤ 100000 by omega)]
      refine iteF ⟨_, rfl, _, _, rfl, rfl, _, rfl, ?_⟩
      rw [decide_eq_true hr'.1]
      refine iteT ⟨_, rfl, _, _, rfl, rfl, _, rfl, ?_⟩
      rw [decide_eq_true hr'.2]
      refine iteF ⟨_, rfl, rfl, _, rfl, iteT ⟨_, rfl, _, rfl, _, _, rfl, rfl, .inl ⟨by omega, by omega⟩, _, rfl, _, _, rfl, rfl, _, _, rfl, rfl, _, rfl, ?_⟩⟩
      have h4 : c * v ≤ 4 * v := Int.mul_le_mul_of_nonneg_right hc.2 (by omega)
      rw [decide_eq_false (show ¬ 100000 < c * v + rest by omega)]
      exact iteF (k H1 s1)
theorem g_checkRows (T : Txt K mg a) (G_simpleFault : FnOk P w K mg base CX0 2 a.f_simpleFault a.d_simpleFault ["row"] sp_simpleFault) (G_multFault : FnOk P w K mg base CX0 2 a.f_multFault a.d_multFault ["row"] sp_multFault) : FnOk P w K mg base CX0 3 a.f_checkRows a.d_checkRows ["part", "rows", "most"] sp_checkRows := by
  refine T.F_checkRows.ok sc_checkRows (fun vs H Q E h => ?_) (fun cdv A outer s H vs Q E hr h => ?_)
  · obtain ⟨la, lb, ps, ms, S, ra, ok, wo, e, _⟩ := h
    rcases e with rfl | rfl <;> rfl
  · obtain ⟨la, lb, ps, ms, S, ra, ok, wo, e, k⟩ := h
    refine ⟨_, (pss_cons (ps_if (pt_cmpR op_gt (pe_callB (lenSeq K) (by rfl) T.z_len (by decide +kernel) (pa_cons (pv 1) pa_nil)) (pv 2) (nomark _)) (pss_one ps_never) pss_nil)
      (pss_one (ps_for PassesOwn.never rfl (pi_enum (by rfl) T.z_enumerate (pa_cons (pv 1) pa_nil)) (pgT K 2 (.inl rfl) (pgs_cons (pg_name (i := 3) sc_checkRows.nd rfl (.inl rfl)) (pgs_cons (pg_name (i := 4) sc_checkRows.nd rfl (.inl rfl)) pgs_nil)))
      (pss_cons (ps_set (i := 5) sc_checkRows.nd rfl (Or.inl rfl) (pe_ifExp (pt_cmpR op_eq (pv 0) pe_str (nomark _)) (pe_call G_simpleFault (hr.mono (by omega)) (by rfl) T.m_simpleFault T.F_simpleFault.kp T.b_simpleFault .nil pass0 (pa_cons (pv 4) pa_nil)) (pe_call G_multFault (hr.mono (by omega)) (by rfl) T.m_multFault T.F_multFault.kp T.b_multFault .nil pass0 (pa_cons (pv 4) pa_nil))))
      (pss_one (ps_if (pt_cmpR op_notN (pv 5) pe_non (nomark _)) (pss_one ps_never) pss_nil)))))), ?_⟩
    have hls := ok.ls
    have hlm := ok.lm
    rcases e with rfl | rfl
    · refine ⟨_, rfl, la, _, rfl, .inl (SqL.of ra.l1), _, rfl, _, _, rfl, rfl, _, rfl, ?_⟩
      rw [List.length_map, ra.pl, decide_eq_false (show ¬ (24 : Int) < (S.simple.length : Int) by omega)]
      refine iteF ⟨_, rfl, la, _, rfl, SqL.of ra.l1, for_it walk_enum (fun i σ H' => ∃ v3 v4 v5, σ = [some (.str "simple"), some (.ref la), some (.int 24), v3, v4, v5] ∧ Same H H') ⟨none, none, none, rfl, .refl H⟩ (fun i σ H' _ ⟨_, _, _, _, g⟩ => SqL.of (g _ _ ra.l1)) ?_ ?_⟩
      · rintro i x σ H1 H2 hi ⟨v3, v4, v5, rfl, g⟩ ⟨T', x', y', rfl, hT, rfl, hx', hy'⟩
        cases hx'
        rw [List.length_map] at hi
        dsimp only at hy'
        rw [List.getElem?_map] at hy'
        obtain ⟨q, hq, rfl⟩ := Option.map_eq_some_iff.mp hy'
        have hse : S.simple[i]? = some (S.simple[i]'(ra.pl ▸ hi)) := List.getElem?_eq_getElem (ra.pl ▸ hi)
        have ho := (g.trans (same_upd (.tup [.int (i : Nat), .ref q]) hT)) _ _ (ra.pe i q _ hq hse)
        have hmem := List.mem_of_getElem? hse
        have hw := wo _ (List.mem_append_left _ (List.mem_map.mpr ⟨_, hmem, rfl⟩))
        have hv := ok.sv _ hmem
        refine ⟨T', _, rfl, SqT.of upd_same, rfl, _, _, rfl, _, _, rfl, rfl, ?_⟩
        refine ⟨_, rfl, rfl, _, rfl, iteT ⟨_, rfl, q, _, _, rfl, ho, hw, hv.1, hv.2, fun H3 s3 => ⟨_, rfl, rfl, _, rfl, iteF ⟨_, _, _, rfl, (g.trans (same_upd _ hT)).trans s3⟩⟩⟩⟩
      · rintro σ H1 ⟨v3, v4, v5, rfl, g⟩
        exact k H1 g
    · refine ⟨_, rfl, lb, _, rfl, .inl (SqL.of ra.l2), _, rfl, _, _, rfl, rfl, _, rfl, ?_⟩
      rw [List.length_map, ra.ml, decide_eq_false (show ¬ (6 : Int) < (S.mult.length : Int) by omega)]
      refine iteF ⟨_, rfl, lb, _, rfl, SqL.of ra.l2, for_it walk_enum (fun i σ H' => ∃ v3 v4 v5, σ = [some (.str "multipliers"), some (.ref lb), some (.int 6), v3, v4, v5] ∧ Same H H') ⟨none, none, none, rfl, .refl H⟩ (fun i σ H' _ ⟨_, _, _, _, g⟩ => SqL.of (g _ _ ra.l2)) ?_ ?_⟩
      · rintro i x σ H1 H2 hi ⟨v3, v4, v5, rfl, g⟩ ⟨T', x', y', rfl, hT, rfl, hx', hy'⟩
        cases hx'
        rw [List.length_map] at hi
        dsimp only at hy'
        rw [List.getElem?_map] at hy'
        obtain ⟨q, hq, rfl⟩ := Option.map_eq_some_iff.mp hy'
        have hse : S.mult[i]? = some (S.mult[i]'(ra.ml ▸ hi)) := List.getElem?_eq_getElem (ra.ml ▸ hi)
        have ho := (g.trans (same_upd (.tup [.int (i : Nat), .ref q]) hT)) _ _ (ra.me i q _ hq hse)
        have hmem := List.mem_of_getElem? hse
        have hw := wo _ (List.mem_append_right _ (List.mem_map.mpr ⟨_, hmem, rfl⟩))
        refine ⟨T', _, rfl, SqT.of upd_same, rfl, _, _, rfl, _, _, rfl, rfl, ?_⟩
        refine ⟨_, rfl, rfl, _, rfl, iteF ⟨_, rfl, q, _, rfl, ho, hw, ok.mv _ hmem, ok.mc _ hmem, ok.mr _ hmem, fun H3 s3 => ⟨_, rfl, rfl, _, rfl, iteF ⟨_, _, _, rfl, (g.trans (same_upd _ hT)).trans s3⟩⟩⟩⟩
      · rintro σ H1 ⟨v3, v4, v5, rfl, g⟩
        exact k H1 g
theorem g_checkWords (T : Txt K mg a) : FnOk P w K mg base CX0 1 a.f_checkWords a.d_checkWords ["simple", "multipliers"] sp_checkWords := by
  refine T.F_checkWords.ok sc_checkWords (fun vs H Q E h => ?_) (fun cdv A outer s H vs Q E hr h => ?_)
  · obtain ⟨la, lb, ps, ms, S, rfl, _⟩ := h
    rfl
  · obtain ⟨la, lb, ps, ms, S, rfl, ra, ok, k⟩ := h
    refine ⟨_, (pss_cons (ps_set (i := 2) sc_checkWords.nd rfl (Or.inl rfl) pe_dnewK)
      (pss_one (psg_for PassesOwn.never (.inl rfl) (pigT K (pe_tup (pa_cons (pe_tup (pa_cons pe_str (pa_cons (pv 0) pa_nil))) (pa_cons (pe_tup (pa_cons pe_str (pa_cons (pv 1) pa_nil))) pa_nil)))) (pgT K 2 (.inl rfl) (pgs_cons (pg_name (i := 3) sc_checkWords.nd rfl (.inl rfl)) (pgs_cons (pg_name (i := 4) sc_checkWords.nd rfl (.inl rfl)) pgs_nil)))
      (pss_one (ps_for PassesOwn.never rfl (pi_enum (by rfl) T.z_enumerate (pa_cons (pv 4) pa_nil)) (pgT K 2 (.inl rfl) (pgs_cons (pg_name (i := 5) sc_checkWords.nd rfl (.inl rfl)) (pgs_cons (pg_name (i := 6) sc_checkWords.nd rfl (.inl rfl)) pgs_nil)))
      (pss_cons (ps_if (pt_cmp (pc_din (huH (roomH_of hr)) (pe_ix (ixT K) (pv 6) pe_int (fun _ _ => rfl)) (pv 2))) (pss_one ps_never) pss_nil)
      (pss_one (ps_dput (huH (roomH_of hr)) (pv 2) (pe_ix (ixT K) (pv 6) pe_int (fun _ _ => rfl)) pe_bl rfl)))))))), ?_⟩
    have hls := ok.ls
    have hlm := ok.lm
    refine fun sd hsd => ?_
    dsimp only [gName]
    obtain ⟨H0, hH0⟩ : ∃ H0, H0 = upd H sd (.dK []) := ⟨_, rfl⟩
    have s0 : Same H H0 := hH0 ▸ same_upd _ hsd
    have F0 : SeenAt H0 sd [] := ⟨[], hH0 ▸ upd_same, Nat.le_refl _, fun _ _ => rfl⟩
    rw [← hH0]
    have ra0 := ra.same s0
    refine ⟨_, rfl, z2, fun t1 ht1 => ⟨_, rfl, z2, fun t2 ht2 => ⟨z2, fun t0 ht0 => ⟨t0, rfl, ⟨_, SqT.of upd_same⟩, ?_⟩⟩⟩⟩
    obtain ⟨H3, hH3⟩ : ∃ H3, H3 = upd (upd (upd H0 t1 (.tup [.str "simple", .ref la])) t2 (.tup [.str "multipliers", .ref lb])) t0 (.tup [.ref t1, .ref t2]) := ⟨_, rfl⟩
    have s3 : Same H0 H3 := hH3 ▸ ((same_upd _ ht1).trans (same_upd _ ht2)).trans (same_upd _ ht0)
    have o0 : H3 t0 = some (.tup [.ref t1, .ref t2]) := hH3 ▸ upd_same
    have o2 : H3 t2 = some (.tup [.str "multipliers", .ref lb]) := hH3 ▸ (same_upd _ ht0) _ _ upd_same
    have o1 : H3 t1 = some (.tup [.str "simple", .ref la]) := hH3 ▸ ((same_upd _ ht2).trans (same_upd _ ht0)) _ _ upd_same
    have ra3 := ra0.same s3
    have F3 : SeenAt H3 sd [] := F0.same s3
    have dk : ∀ {H4 : Hp}, Kp [sd] H3 H4 → ∀ {b o}, H3 b = some o → (∀ kvs, o ≠ .dK kvs) → H4 b = some o := by
      intro H4 k4 b o e ne
      refine k4 _ _ e ?_
      rw [List.mem_singleton]
      intro z
      obtain ⟨kvs, e1, _⟩ := F3
      rw [z, e1] at e
      exact ne kvs (Option.some.inj e).symm
    rw [← hH3]
    have aw : (allWords S).length = S.simple.length + S.mult.length := by rw [allWords, List.length_append, List.length_map, List.length_map]
    have hnd : (allWords S).Nodup := ok.nd
    refine for_tup (K := K) (a := t0) (xs := [.ref t1, .ref t2]) (fun m σ H4 => ∃ v3 v4 v5 v6, σ = [some (.ref la), some (.ref lb), some (.ref sd), v3, v4, v5, v6] ∧ Kp [sd] H3 H4 ∧ SeenAt H4 sd ((allWords S).take (if m = 0 then 0 else if m = 1 then S.simple.length else S.simple.length + S.mult.length)))
      ⟨none, none, none, none, rfl, .refl _ _, F3⟩ (fun m σ H4 _ ⟨_, _, _, _, _, k4, _⟩ => SqT.of (dk k4 o0 (fun _ e => nomatch e))) ?_ ?_
    · rintro m x σ H4 hx ⟨v3, v4, v5, v6, rfl, k4, F4⟩
      obtain ⟨t, pt, lx, qs, o, rfl, ht, hlx, hoff, hnext, hrow⟩ : ∃ (t : Addr) (pt : Str) (lx : Addr) (qs : List Addr) (o : Nat), x = .ref t ∧ H3 t = some (.tup [.str pt, .ref lx]) ∧ H3 lx = some (.lst (qs.map V.ref)) ∧
          (if m = 0 then 0 else if m = 1 then S.simple.length else S.simple.length + S.mult.length) = o ∧ (if m + 1 = 0 then 0 else if m + 1 = 1 then S.simple.length else S.simple.length + S.mult.length) = o + qs.length ∧
          ∀ (i : Nat) (q : Addr), qs[i]? = some q → ∃ w ys, H3 q = some (.tup (.str w :: ys)) ∧ (allWords S)[o + i]? = some w := by
        match m, hx with
        | 0, hx =>
          cases hx
          refine ⟨t1, _, la, ps, 0, rfl, o1, ra3.l1, rfl, by simp [ra.pl], fun i q hq => ?_⟩
          have hi : i < S.simple.length := ra.pl ▸ (List.getElem?_eq_some_iff.mp hq).1
          refine ⟨_, _, ra3.pe i q _ hq (List.getElem?_eq_getElem hi), ?_⟩
          rw [Nat.zero_add, allWords, List.getElem?_append_left (by rw [List.length_map]; exact hi), List.getElem?_map, List.getElem?_eq_getElem hi]
          rfl
        | 1, hx =>
          cases hx
          refine ⟨t2, _, lb, ms, S.simple.length, rfl, o2, ra3.l2, rfl, by simp [ra.ml], fun i q hq => ?_⟩
          have hi : i < S.mult.length := ra.ml ▸ (List.getElem?_eq_some_iff.mp hq).1
          refine ⟨_, _, ra3.me i q _ hq (List.getElem?_eq_getElem hi), ?_⟩
          rw [allWords, List.getElem?_append_right (by rw [List.length_map]; omega), List.length_map, Nat.add_sub_cancel_left, List.getElem?_map, List.getElem?_eq_getElem hi]
          rfl
        | m + 2, hx => simp at hx
      rw [hoff] at F4
      rw [hnext]
      have hlx4 := dk k4 hlx (fun _ e => nomatch e)
      refine ⟨t, _, rfl, SqT.of (dk k4 ht (fun _ e => nomatch e)), rfl, _, _, rfl, _, _, rfl, rfl, ?_⟩
      refine ⟨_, rfl, lx, _, rfl, SqL.of hlx4, for_it walk_enum (fun i σ H5 => ∃ v5 v6, σ = [some (.ref la), some (.ref lb), some (.ref sd), some (.str pt), some (.ref lx), v5, v6] ∧ Kp [sd] H3 H5 ∧ SeenAt H5 sd ((allWords S).take (o + i)))
        ⟨v5, v6, rfl, k4, F4⟩ (fun i σ H5 _ ⟨_, _, _, k5, _⟩ => SqL.of (dk k5 hlx (fun _ e => nomatch e))) ?_ ?_⟩
      · rintro i x σ H5 H6 hi ⟨v5, v6, rfl, k5, F5⟩ ⟨T', x', y', rfl, hT, rfl, hx', hy'⟩
        cases hx'
        dsimp only at hy'
        rw [List.getElem?_map] at hy'
        obtain ⟨q, hq, rfl⟩ := Option.map_eq_some_iff.mp hy'
        obtain ⟨w', ys, hw', ha'⟩ := hrow i q hq
        have s6 : Same H5 (upd H5 T' (.tup [.int (i : Nat), .ref q])) := same_upd _ hT
        have hq6 := s6 _ _ (dk k5 hw' (fun _ e => nomatch e))
        obtain ⟨kvs, e1, e2, e3⟩ := F5.same s6
        have hnw : w' ∉ (allWords S).take (o + i) := fun hm => by
          obtain ⟨j, hj, e⟩ := List.mem_iff_getElem.mp hm
          rw [List.length_take] at hj
          rw [List.getElem_take] at e
          obtain ⟨hl, e'⟩ := List.getElem?_eq_some_iff.mp ha'
          have := (List.getElem_inj hnd (h₀ := by omega) (h₁ := hl)).mp (e.trans e'.symm)
          omega
        have hnone := e3 w' hnw
        have hoi : o + i < (allWords S).length := (List.getElem?_eq_some_iff.mp ha').1
        refine ⟨T', _, rfl, SqT.of upd_same, rfl, _, _, rfl, _, _, rfl, rfl, ?_⟩
        refine ⟨_, rfl, q, _, 0, .str w', rfl, rfl, SqT.of hq6, atI_nat (j := 0) rfl, _, rfl, sd, _, rfl, DGet.k (k := Sum.inr w') e1, _, rfl, ?_⟩
        rw [hnone]
        refine iteF ⟨_, rfl, _, rfl, q, _, 0, .str w', rfl, rfl, SqT.of hq6, atI_nat (j := 0) rfl, sd, _, rfl, DPut.k (k := Sum.inr w') e1 ?_, _, _, rfl, ?_, ?_⟩
        · have h7 : kvs.length ≤ ((allWords S).take (o + i)).length := e2
          rw [List.length_take] at h7
          exact small_len (by omega)
        · exact (k5.trans (.of_same s6)).trans fun b o' e hb => by
            rw [upd_ne (by simpa using hb)]
            exact e
        · refine ⟨_, upd_same, ?_, fun z hz => ?_⟩
          · have h7 : kvs.length ≤ ((allWords S).take (o + i)).length := e2
            have h8 := length_putK kvs (Sum.inr w' : L2.Key) (.bl true)
            rw [List.length_take] at h7 ⊢
            omega
          · rw [← Nat.add_assoc, take_snoc ha'] at hz
            rw [valV_put, if_neg (fun e => hz (by cases e; simp))]
            exact e3 z fun h => hz (List.mem_append_left _ h)
      · rintro σ H5 ⟨v5, v6, rfl, k5, F5⟩
        rw [List.length_map] at F5
        exact ⟨_, _, _, _, rfl, k5, F5⟩
    · rintro σ H4 ⟨v3, v4, v5, v6, rfl, k4, F4⟩
      exact k H4 fun b o e => k4 _ _ (s3 _ _ (s0 _ _ e)) (by simpa using ne_of_none e hsd)
theorem g_checkEndless (T : Txt K mg a) : FnOk P w K mg base CX0 1 a.f_checkEndless a.d_checkEndless ["multipliers"] sp_checkEndless := by
  refine T.F_checkEndless.ok sc_checkEndless (fun vs H Q E h => ?_) (fun cdv A outer s H vs Q E hr h => ?_)
  · obtain ⟨la, lb, ps, ms, S, rfl, _⟩ := h
    rfl
  · obtain ⟨la, lb, ps, ms, S, rfl, ra, ok, k⟩ := h
    refine ⟨_, (pss_cons (ps_setLc (i := 1) (own := [("number", 2), ("row", 3)]) rfl sc_checkEndless.nd rfl rfl (sw_true rfl rfl rfl (by decide +kernel)) (pi_enum (by rfl) T.z_enumerate (pa_cons (pv 0) pa_nil)) (blkOk_by (own := [("number", 2), ("row", 3)]) (N := ["multipliers", "found", "number", "row"]) (sc := defScope s_checkEndless) (by decide +kernel)) (fun _ _ _ _ _ => (pgT K 2 (.inl rfl) (pgs_cons (pg_name (i := 2) sc_checkEndless.nd rfl (.inl rfl)) (pgs_cons (pg_name (i := 3) sc_checkEndless.nd rfl (.inl rfl)) pgs_nil)))) (fun _ _ _ _ _ => (pts_one (pt_cmpR op_isN (pe_ix (ixT K) (pv 3) pe_int (fun _ _ => rfl)) pe_non (nomark _)))) (fun _ _ _ _ _ => (pv 2)))
      (pss_one (ps_if (pt_cmpR op_gt (pe_callB (lenSeq K) (by rfl) T.z_len (by decide +kernel) (pa_cons (pv 1) pa_nil)) pe_int (nomark _)) (pss_one ps_never) pss_nil))), ?_⟩
    refine ⟨_, rfl, lb, _, rfl, SqL.of ra.l2, fun D hD => lc_it walk_enum (fun i H' => Same H H' ∧ ∃ ns : List Int, H' D = some (.lst (ns.map V.int)) ∧ ((ns = [] ∧ ∀ (j : Nat) (r : Rw), j < i → S.mult[j]? = some r → r.most ≠ none) ∨ ∃ (j : Nat) (r : Rw), ns.length = 1 ∧ j < i ∧ S.mult[j]? = some r ∧ r.most = none))
      ⟨same_upd _ hD, [], upd_same, .inl ⟨rfl, fun j r h => absurd h (Nat.not_lt_zero _)⟩⟩ (fun i H' _ g => SqL.of (g.1 _ _ ra.l2)) ?_ ?_⟩
    · rintro i x H1 H2 hi ⟨g, ns, hns, hor⟩ ⟨T', x', y', rfl, hT, rfl, hx', hy'⟩
      cases hx'
      rw [List.length_map] at hi
      dsimp only at hy'
      rw [List.getElem?_map] at hy'
      obtain ⟨q, hq, rfl⟩ := Option.map_eq_some_iff.mp hy'
      have hse : S.mult[i]? = some (S.mult[i]'(ra.ml ▸ hi)) := List.getElem?_eq_getElem (ra.ml ▸ hi)
      have gT := g.trans (same_upd (.tup [.int (i : Nat), .ref q]) hT)
      have ho := gT _ _ (ra.me i q _ hq hse)
      refine ⟨T', _, rfl, SqT.of upd_same, rfl, _, _, rfl, _, _, rfl, rfl, rfl, _, rfl, q, _, 2, mostV (S.mult[i]'(ra.ml ▸ hi)).most, rfl, rfl, SqT.of ho, rfl, rfl, _, rfl, ?_⟩
      cases hm : (S.mult[i]'(ra.ml ▸ hi)).most with
      | none =>
        rcases hor with ⟨rfl, hno⟩ | ⟨j, r, _, hj, e1, e2⟩
        · refine iteT ⟨_, rfl, _, (same_upd _ hT) _ _ hns, by decide, same_add gT hD, [_], upd_same, .inr ⟨i, _, rfl, Nat.lt_succ_self _, hse, hm⟩⟩
        · have := ok.one i j _ r hse e1 hm e2
          omega
      | some c =>
        refine iteF ⟨gT, ns, (same_upd _ hT) _ _ hns, hor.imp (fun z => ⟨z.1, fun j r hj e => ?_⟩) fun ⟨j, r, a1, a2, a3⟩ => ⟨j, r, a1, by omega, a3⟩⟩
        by_cases e' : j = i
        · subst e'
          rw [hse] at e
          cases e
          rw [hm]
          exact fun z => nomatch z
        · exact z.2 j r (by omega) e
    · rintro H1 ⟨g, ns, hns, hor⟩
      have hl : ns.length ≤ 1 := by
        rcases hor with ⟨rfl, _⟩ | ⟨_, _, e, _⟩
        · exact Nat.zero_le _
        · omega
      refine ⟨_, rfl, D, _, rfl, .inl (SqL.of hns), _, _, rfl, rfl, _, rfl, ?_⟩
      rw [List.length_map, decide_eq_false (show ¬ (1 : Int) < (ns.length : Int) by omega)]
      exact iteF (k H1 g)
theorem g_sysInit (T : Txt K mg a) (G_checkRows : FnOk P w K mg base CX0 3 a.f_checkRows a.d_checkRows ["part", "rows", "most"] sp_checkRows) (G_checkWords' : FnOk P w K mg base CX0 1 a.f_checkWords a.d_checkWords ["simple", "multipliers"] sp_checkWords)
    (G_checkEndless' : FnOk P w K mg base CX0 1 a.f_checkEndless a.d_checkEndless ["multipliers"] sp_checkEndless) : FnOk P w K mg base CX0 4 a.f_sysInit a.d_sysInit ["self", "simple", "multipliers"] (sp_sysInit a) := by
  have G_checkWords := G_checkWords'.mono (k := 3) (by omega)
  have G_checkEndless := G_checkEndless'.mono (k := 3) (by omega)
  refine T.F_sysInit.ok sc_sysInit (fun vs H Q E h => ?_) (fun cdv A outer s H vs Q E hr h => ?_)
  · obtain ⟨x, dx, la, lb, ps, ms, S, rfl, _⟩ := h
    rfl
  · obtain ⟨x, dx, la, lb, ps, ms, S, rfl, hx, ra, ok, wo, k⟩ := h
    refine ⟨_, (pss_cons (ps_expr (pe_call G_checkRows (hr.mono (by omega)) (by rfl) T.m_checkRows T.F_checkRows.kp T.b_checkRows .nil pass0 (pa_cons pe_str (pa_cons (pv 1) (pa_cons (pe_gc (by rfl) T.k_MOST_SIMPLE) pa_nil)))))
      (pss_cons (ps_expr (pe_call G_checkRows (hr.mono (by omega)) (by rfl) T.m_checkRows T.F_checkRows.kp T.b_checkRows .nil pass0 (pa_cons pe_str (pa_cons (pv 2) (pa_cons (pe_gc (by rfl) T.k_MOST_MULTIPLIERS) pa_nil)))))
      (pss_cons (ps_expr (pe_call G_checkWords (hr.mono (by omega)) (by rfl) T.m_checkWords T.F_checkWords.kp T.b_checkWords .nil pass0 (pa_cons (pv 1) (pa_cons (pv 2) pa_nil))))
      (pss_cons (ps_expr (pe_call G_checkEndless (hr.mono (by omega)) (by rfl) T.m_checkEndless T.F_checkEndless.kp T.b_checkEndless .nil pass0 (pa_cons (pv 2) pa_nil)))
      (pss_cons (ps_fld (pv 0) (pe_callTy (tupOf K) (by rfl) T.z_tuple (by decide +kernel) (pa_cons (peg_lc (own := [("row", 3)]) (.inl rfl) sc_sysInit.nd (pigL K (pv 1)) (blkOk_by (own := [("row", 3)]) (N := ["self", "simple", "multipliers", "row"]) (sc := defScope s_sysInit) (by decide +kernel)) (fun _ _ _ _ _ => (pg_name (i := 3) sc_sysInit.nd rfl (.inl rfl))) (fun _ _ _ _ _ => pts_nil) (fun _ _ _ _ _ => (pe_callTy (tupOf K) (by rfl) T.z_tuple (by decide +kernel) (pa_cons (pv 3) pa_nil)))) pa_nil)) rfl)
      (pss_cons (ps_fld (pv 0) (pe_callTy (tupOf K) (by rfl) T.z_tuple (by decide +kernel) (pa_cons (peg_lc (own := [("row", 3)]) (.inl rfl) sc_sysInit.nd (pigL K (pv 2)) (blkOk_by (own := [("row", 3)]) (N := ["self", "simple", "multipliers", "row"]) (sc := defScope s_sysInit) (by decide +kernel)) (fun _ _ _ _ _ => (pg_name (i := 3) sc_sysInit.nd rfl (.inl rfl))) (fun _ _ _ _ _ => pts_nil) (fun _ _ _ _ _ => (pe_callTy (tupOf K) (by rfl) T.z_tuple (by decide +kernel) (pa_cons (pv 3) pa_nil)))) pa_nil)) rfl)
      (pss_cons (ps_fld (pv 0) (pe_dc (own := [("row", 3)]) rfl sc_sysInit.nd (pigT K (fldK K (pv 0) rfl)).pi (blkOk_by (own := [("row", 3)]) (N := ["self", "simple", "multipliers", "row"]) (sc := defScope s_sysInit) (by decide +kernel)) (fun _ _ _ _ _ => (pg_name (i := 3) sc_sysInit.nd rfl (.inl rfl))) (fun _ _ _ _ _ => pts_nil) (fun _ _ _ _ _ => (pe_ix (ixT K) (pv 3) pe_int (fun _ _ => rfl))) (fun _ _ _ _ _ => (pe_ix (ixT K) (pv 3) pe_int (fun _ _ => rfl)))) rfl)
      (pss_one (ps_fld (pv 0) (pe_dc (own := [("row", 3)]) rfl sc_sysInit.nd (pigT K (fldK K (pv 0) rfl)).pi (blkOk_by (own := [("row", 3)]) (N := ["self", "simple", "multipliers", "row"]) (sc := defScope s_sysInit) (by decide +kernel)) (fun _ _ _ _ _ => (pg_name (i := 3) sc_sysInit.nd rfl (.inl rfl))) (fun _ _ _ _ _ => pts_nil) (fun _ _ _ _ _ => (pe_ix (ixT K) (pv 3) pe_int (fun _ _ => rfl))) (fun _ _ _ _ _ => (pv 3))) rfl))))))))), ?_⟩
    have hls := ok.ls
    have hlm := ok.lm
    refine ⟨_, rfl, la, lb, ps, ms, S, ra, ok, wo, .inl rfl, fun H1 s1 => ?_⟩
    refine ⟨_, rfl, la, lb, ps, ms, S, ra.same s1, ok, wo, .inr rfl, fun H2 s2 => ?_⟩
    refine ⟨_, rfl, _, rfl, la, lb, ps, ms, S, rfl, (ra.same s1).same s2, ok, fun H3 s3 => ?_⟩
    refine ⟨_, rfl, la, lb, ps, ms, S, rfl, ((ra.same s1).same s2).same s3, ok, fun H4 s4 => ?_⟩
    have s04 : Same H H4 := ((s1.trans s2).trans s3).trans s4
    have ra4 := ra.same s04
    have inp : ∀ q ∈ ps, ∃ ys, H4 q = some (.tup ys) := fun q hq => by
      obtain ⟨i, hi, rfl⟩ := List.mem_iff_getElem.mp hq
      exact ⟨_, ra4.pe i _ (S.simple[i]'(ra.pl ▸ hi)) (List.getElem?_eq_getElem hi) (List.getElem?_eq_getElem (ra.pl ▸ hi))⟩
    have inm : ∀ q ∈ ms, ∃ ys, H4 q = some (.tup ys) := fun q hq => by
      obtain ⟨i, hi, rfl⟩ := List.mem_iff_getElem.mp hq
      exact ⟨_, ra4.me i _ (S.mult[i]'(ra.ml ▸ hi)) (List.getElem?_eq_getElem hi) (List.getElem?_eq_getElem (ra.ml ▸ hi))⟩
    dsimp only [tSeq, sFld]
    refine tup_rows (K := K) (j := 1) rfl ra4.l1 inp (by have := ra.pl; omega) fun ts H5 s5 hts => ?_
    have x5 := s5 _ _ (s04 _ _ hx)
    refine ⟨_, rfl, x, a.cSys, dx, _, rfl, x5, T.cl_cSys, T.n_cSys_simple, by show (0 : Nat) < 1000; decide, ?_⟩
    obtain ⟨H6, hH6⟩ : ∃ H6, H6 = upd H5 x (.ins a.cSys dx (putF "simple" (.ref ts) [])) := ⟨_, rfl⟩
    have k6 : Kp [x] H5 H6 := hH6 ▸ fld_kp _
    have x6 : H6 x = some (.ins a.cSys dx [("simple", .ref ts)]) := hH6 ▸ upd_same
    rw [← hH6]
    have k46 : Kp [x] H4 H6 := (Kp.of_same s5).trans k6
    have x4 := s04 _ _ hx
    have inm6 : ∀ q ∈ ms, ∃ ys, H6 q = some (.tup ys) := fun q hq => (inm q hq).imp fun ys e => kp_get k46 x4 e (fun _ _ _ z => nomatch z)
    refine tup_rows (K := K) (j := 2) rfl (kp_get k46 x4 ra4.l2 (fun _ _ _ z => nomatch z)) inm6 (by have := ra.ml; omega) fun tm H7 s7 htm => ?_
    have x7 := s7 _ _ x6
    refine ⟨_, rfl, x, a.cSys, dx, _, rfl, x7, T.cl_cSys, T.n_cSys_multipliers, by show (1 : Nat) < 1000; decide, ?_⟩
    obtain ⟨H8, hH8⟩ : ∃ H8, H8 = upd H7 x (.ins a.cSys dx (putF "multipliers" (.ref tm) [("simple", .ref ts)])) := ⟨_, rfl⟩
    have k8 : Kp [x] H7 H8 := hH8 ▸ fld_kp _
    have x8 : H8 x = some (.ins a.cSys dx [("simple", .ref ts), ("multipliers", .ref tm)]) := hH8 ▸ upd_same
    rw [← hH8]
    have k48 : Kp [x] H4 H8 := (k46.trans (.of_same s7)).trans k8
    have k58 : Kp [x] H5 H8 := (k6.trans (.of_same s7)).trans k8
    have ts8 := kp_get k58 x5 hts (fun _ _ _ z => nomatch z)
    have tm8 := kp_get k8 x7 htm (fun _ _ _ z => nomatch z)
    have pe8 : ∀ (i : Nat) (q : Addr) (e : Str × Int), ps[i]? = some q → S.simple[i]? = some e → H8 q = some (.tup [.str e.1, .int e.2]) := fun i q e h1 h2 => kp_get k48 x4 (ra4.pe i q e h1 h2) (fun _ _ _ z => nomatch z)
    have me8 : ∀ (i : Nat) (q : Addr) (r : Rw), ms[i]? = some q → S.mult[i]? = some r → H8 q = some (.tup (rowV r)) := fun i q e h1 h2 => kp_get k48 x4 (ra4.me i q e h1 h2) (fun _ _ _ z => nomatch z)
    have nds := (List.nodup_append.mp ok.nd).1
    have ndm := (List.nodup_append.mp ok.nd).2.1
    refine ⟨_, rfl, x, a.cSys, dx, _, _, rfl, x8, T.cl_cSys, T.n_cSys_simple, rfl, ts, rfl, ⟨_, SqT.of ts8⟩, fun tv htv => dc_tup (K := K) (a := ts) (xs := ps.map V.ref)
      (fun i H' => Same H8 H' ∧ ∃ kv, H' tv = some (.dK kv) ∧ kv.length ≤ i ∧ (∀ e ∈ S.simple.take i, valV kv (Sum.inr e.1 : L2.Key) = some (.int e.2)) ∧ ∀ w : Str, (∀ e ∈ S.simple.take i, e.1 ≠ w) → valV kv (Sum.inr w : L2.Key) = none)
      ⟨same_upd _ htv, [], upd_same, Nat.le_refl _, (fun e he => nomatch he), fun _ _ => rfl⟩ (fun i H' _ g => SqT.of (g.1 _ _ ts8)) ?_ ?_⟩
    · rintro i y H' hy ⟨g, kv, e1, e2, e3, e4⟩
      rw [List.getElem?_map] at hy
      obtain ⟨q, hq, rfl⟩ := Option.map_eq_some_iff.mp hy
      have hil : i < S.simple.length := ra.pl ▸ (List.getElem?_eq_some_iff.mp hq).1
      have hse : S.simple[i]? = some (S.simple[i]) := List.getElem?_eq_getElem hil
      have ho := g _ _ (pe8 i q _ hq hse)
      have new : ∀ e ∈ S.simple.take i, e.1 ≠ S.simple[i].1 := fun e he z => by
        obtain ⟨j, hj, rfl⟩ := List.mem_iff_getElem.mp he
        rw [List.length_take] at hj
        rw [List.getElem_take] at z
        have : (S.simple.map (·.1))[j]'(by rw [List.length_map]; omega) = (S.simple.map (·.1))[i]'(by rw [List.length_map]; exact hil) := by
          rw [List.getElem_map, List.getElem_map]
          exact z
        have := (List.getElem_inj nds).mp this
        omega
      refine ⟨rfl, tYes_if ⟨_, rfl, q, _, 0, .str (S.simple[i]).1, rfl, rfl, SqT.of ho, atI_nat (j := 0) rfl, _, rfl, q, _, 1, .int (S.simple[i]).2, rfl, rfl, SqT.of ho, atI_nat (j := 1) rfl, kv, Sum.inr (S.simple[i]).1, rfl, e1, small_len (by omega), same_add g htv, _, upd_same, ?_, fun e he => ?_, fun w hw => ?_⟩⟩
      · have := length_putK kv (Sum.inr (S.simple[i]).1 : L2.Key) (.int (S.simple[i]).2)
        omega
      · rw [take_snoc hse] at he
        rw [valV_put]
        rcases List.mem_append.mp he with z | z
        · rw [if_neg (fun h => new e z (by injection h))]
          exact e3 e z
        · rw [List.mem_singleton.mp z, if_pos rfl]
      · rw [take_snoc hse] at hw
        rw [valV_put, if_neg (fun h => hw _ (List.mem_append_right _ (List.mem_singleton.mpr rfl)) (by injection h with h; exact h.symm))]
        exact e4 w fun e he => hw e (List.mem_append_left _ he)
    rintro H9 ⟨g9, kv, v1, v2, v3, v4⟩
    rw [List.length_map, ra.pl, List.take_length] at v3 v4
    have x9 := g9 _ _ x8
    refine ⟨_, rfl, x, a.cSys, dx, _, rfl, x9, T.cl_cSys, T.n_cSys__values, by show (2 : Nat) < 1000; decide, ?_⟩
    obtain ⟨H10, hH10⟩ : ∃ H10, H10 = upd H9 x (.ins a.cSys dx (putF "_values" (.ref tv) [("simple", .ref ts), ("multipliers", .ref tm)])) := ⟨_, rfl⟩
    have k10 : Kp [x] H9 H10 := hH10 ▸ fld_kp _
    have x10 : H10 x = some (.ins a.cSys dx [("simple", .ref ts), ("multipliers", .ref tm), ("_values", .ref tv)]) := hH10 ▸ upd_same
    rw [← hH10]
    have k810 : Kp [x] H8 H10 := (Kp.of_same g9).trans k10
    have tm10 := kp_get k810 x8 tm8 (fun _ _ _ z => nomatch z)
    have me10 : ∀ (i : Nat) (q : Addr) (r : Rw), ms[i]? = some q → S.mult[i]? = some r → H10 q = some (.tup (rowV r)) := fun i q e h1 h2 => kp_get k810 x8 (me8 i q e h1 h2) (fun _ _ _ z => nomatch z)
    refine ⟨_, rfl, x, a.cSys, dx, _, _, rfl, x10, T.cl_cSys, T.n_cSys_multipliers, rfl, tm, rfl, ⟨_, SqT.of tm10⟩, fun tr htr => dc_tup (K := K) (a := tm) (xs := ms.map V.ref)
      (fun i H' => Same H10 H' ∧ ∃ kr, H' tr = some (.dK kr) ∧ kr.length ≤ i ∧ (∀ (j : Nat) (q : Addr) (r : Rw), j < i → ms[j]? = some q → S.mult[j]? = some r → valV kr (Sum.inr r.w : L2.Key) = some (.ref q)) ∧ ∀ w : Str, (∀ r ∈ S.mult.take i, r.w ≠ w) → valV kr (Sum.inr w : L2.Key) = none)
      ⟨same_upd _ htr, [], upd_same, Nat.le_refl _, (fun j q r h => absurd h (Nat.not_lt_zero _)), fun _ _ => rfl⟩ (fun i H' _ g => SqT.of (g.1 _ _ tm10)) ?_ ?_⟩
    · rintro i y H' hy ⟨g, kr, e1, e2, e3, e4⟩
      rw [List.getElem?_map] at hy
      obtain ⟨q, hq, rfl⟩ := Option.map_eq_some_iff.mp hy
      have hil : i < S.mult.length := ra.ml ▸ (List.getElem?_eq_some_iff.mp hq).1
      have hse : S.mult[i]? = some (S.mult[i]) := List.getElem?_eq_getElem hil
      have ho := g _ _ (me10 i q _ hq hse)
      have new : ∀ (j : Nat) (r : Rw), j < i → S.mult[j]? = some r → r.w ≠ (S.mult[i]).w := fun j r hj e z => by
        obtain ⟨hjl, rfl⟩ := List.getElem?_eq_some_iff.mp e
        have : (S.mult.map (·.w))[j]'(by rw [List.length_map]; omega) = (S.mult.map (·.w))[i]'(by rw [List.length_map]; exact hil) := by
          rw [List.getElem_map, List.getElem_map]
          exact z
        have := (List.getElem_inj ndm).mp this
        omega
      refine ⟨rfl, tYes_if ⟨_, rfl, q, _, 0, .str (S.mult[i]).w, rfl, rfl, SqT.of ho, atI_nat (j := 0) rfl, _, rfl, kr, Sum.inr (S.mult[i]).w, rfl, e1, small_len (by omega), same_add g htr, _, upd_same, ?_, fun j q' r hj h1 h2 => ?_, fun w hw => ?_⟩⟩
      · have := length_putK kr (Sum.inr (S.mult[i]).w : L2.Key) (.ref q)
        omega
      · rw [valV_put]
        by_cases e : j = i
        · subst e
          rw [hse] at h2
          cases h2
          rw [hq] at h1
          cases h1
          rw [if_pos rfl]
        · rw [if_neg (fun h => new j r (by omega) h2 (by injection h))]
          exact e3 j q' r (by omega) h1 h2
      · rw [take_snoc hse] at hw
        rw [valV_put, if_neg (fun h => hw _ (List.mem_append_right _ (List.mem_singleton.mpr rfl)) (by injection h with h; exact h.symm))]
        exact e4 w fun e he => hw e (List.mem_append_left _ he)
    rintro H11 ⟨g11, kr, r1, r2, r3, r4⟩
    rw [List.length_map] at r3
    rw [List.length_map, ra.ml, List.take_length] at r4
    have x11 := g11 _ _ x10
    refine ⟨_, rfl, x, a.cSys, dx, _, rfl, x11, T.cl_cSys, T.n_cSys__rows, by show (3 : Nat) < 1000; decide, ?_⟩
    have k12 : Kp [x] H11 (upd H11 x (.ins a.cSys dx (putF "_rows" (.ref tr) [("simple", .ref ts), ("multipliers", .ref tm), ("_values", .ref tv)]))) := fld_kp _
    have k1012 := (Kp.of_same g11 (M := [x])).trans k12
    have k812 := k810.trans k1012
    refine k ⟨x, dx, ts, tm, tv, tr, ps, ms, kv, kr⟩ _ rfl (((Kp.of_same s04).trans k48).trans k812) ⟨upd_same, kp_get k812 x8 ts8 (fun _ _ _ z => nomatch z), ra.pl, fun i q e h1 h2 => kp_get k812 x8 (pe8 i q e h1 h2) (fun _ _ _ z => nomatch z), kp_get k812 x8 tm8 (fun _ _ _ z => nomatch z), ra.ml,
      fun i q e h1 h2 => kp_get k812 x8 (me8 i q e h1 h2) (fun _ _ _ z => nomatch z), kp_get (k10.trans k1012) x9 v1 (fun _ _ _ z => nomatch z), v3, v4, kp_get k12 x11 r1 (fun _ _ _ z => nomatch z), fun i q r h1 h2 => r3 i q r (List.getElem?_eq_some_iff.mp h1).1 h1 h2, r4⟩
end
end K30
set_option Elab.async false
set_option linter.all false
set_option maxRecDepth 100000
set_option maxHeartbeats 4000000
/-! K30L: what the law draws. -/
namespace K30
open PySem PySem.Spec PyProof.Rows L2 L2H
open StX (pa_star)
open C8 (pe_gc)
/-- the pool of numbers -/
structure PoolAt (H : Hp) (pp cl : Addr) (dg : Int) : Prop where
  ex : ∃ (cells : List Int) (ix st : Int), H pp = some (.lst [.ref cl, .int ix, .int dg, .int st]) ∧ H cl = some (.lst (cells.map V.int)) ∧ cl ≠ pp ∧ (∀ c ∈ cells, 0 ≤ c) ∧ 0 ≤ ix ∧ 0 ≤ st ∧ st < 2147483647
  dg : 0 ≤ dg
def sp_lPool (K : PySem.W.Frag) : Sp := fun vs H Q _ => ∃ (p : Addr) (ns : List Int), vs = [.ref p] ∧ SqL K H p (ns.map V.int) ∧ ns.length ≤ 63 ∧ ∀ pp cl H', Same H H' → PoolAt H' pp cl 0 → Q (.ref pp) H'
def sp_lTake (only : Prop) : Sp := fun vs H Q _ => ∃ (pp cl : Addr) (dg many : Int), vs = [.ref pp, .int many] ∧ PoolAt H pp cl dg ∧ (only → 0 < dg) ∧ 1 ≤ many ∧ many ≤ 1000 ∧ ∀ z dg' H', 0 ≤ z → z < many → Kp [pp] H H' → PoolAt H' pp cl dg' → Q (.int z) H'
theorem pool_mk {H : Hp} {pp cl : Addr} {cells : List Int} {ix dg st : Int} (h1 : H pp = some (.lst [.ref cl, .int ix, .int dg, .int st])) (h2 : H cl = some (.lst (cells.map V.int))) (h3 : cl ≠ pp) (h4 : ∀ c ∈ cells, 0 ≤ c) (h5 : 0 ≤ ix) (h6 : 0 ≤ st) (h7 : st < 2147483647) (h8 : 0 ≤ dg) : PoolAt H pp cl dg :=
  ⟨⟨cells, ix, st, h1, h2, h3, h4, h5, h6, h7⟩, h8⟩
theorem PoolAt.same {H H' : Hp} {pp cl : Addr} {dg : Int} (h : PoolAt H pp cl dg) (k : Same H H') : PoolAt H' pp cl dg := by
  obtain ⟨⟨cells, ix, st, h1, h2, h3, h4, h5, h6, h7⟩, h8⟩ := h
  exact pool_mk (k _ _ h1) (k _ _ h2) h3 h4 h5 h6 h7 h8
theorem mod_rng {x m : Int} (h : 0 < m) : 0 ≤ x % m ∧ x % m < m := ⟨Int.emod_nonneg x (by omega), Int.emod_lt_of_pos x h⟩
theorem seq_set {v : V} {i : Nat} {Y : TS} {D : Ends} {σ : L2.St} {H : Hp} (h : Y D (σ.set i (some v)) H) : tSeq (tAsg (tC v) (gName i)) Y D σ H := h
/-! ### words -/
theorem join_nil : ∀ cs : List Nat, (Str.join (Str.ofString "") (cs.map fun c => (⟨#[c]⟩ : Str))).cps.toList = cs
  | [] => rfl
  | [c] => rfl
  | c :: d :: r => by
    have ih := join_nil (d :: r)
    show ((⟨#[c]⟩ : Str) ++ (Str.ofString "") ++ Str.join (Str.ofString "") ((d :: r).map fun c => (⟨#[c]⟩ : Str))).cps.toList = _
    have e : ∀ a b : Str, (a ++ b).cps.toList = a.cps.toList ++ b.cps.toList := fun a b => by
      show (a.cps ++ b.cps).toList = _
      exact Array.toList_append
    rw [e, e, ih]
    rfl
theorem word_of {cs : List Nat} (h1 : 1 ≤ cs.length) (h2 : cs.length ≤ 8) (h3 : ∀ c ∈ cs, c ∈ letters.cps.toList) : WordOk (Txt.join (Str.ofString "") (cs.map fun c => (⟨#[c]⟩ : Str))) := by
  have e : Txt.join (Str.ofString "") (cs.map fun c => (⟨#[c]⟩ : Str)) = Str.join (Str.ofString "") (cs.map fun c => (⟨#[c]⟩ : Str)) := StrLaws.glued_eq_join _ _
  rw [e]
  have j := join_nil cs
  have l : (Str.join (Str.ofString "") (cs.map fun c => (⟨#[c]⟩ : Str))).length = cs.length := by
    rw [← j]
    show _ = (Str.join (Str.ofString "") _).cps.toList.length
    rw [Array.length_toList, j]
    rfl
  exact ⟨by omega, by omega, fun c hc => h3 c (j ▸ hc)⟩
theorem lett_len : letters.cps.toList.length = 26 := by decide +kernel
theorem lett {j : Nat} (h : j < 26) : letters.cps.toList[j]? = some (letters.cps.toList.getD j 0) := by
  rw [List.getD_eq_getElem?_getD, List.getElem?_eq_getElem (by rw [lett_len]; exact h)]
  rfl
theorem lett_in {j : Nat} (h : j < 26) : letters.cps.toList.getD j 0 ∈ letters.cps.toList := List.mem_of_getElem? (lett h)
def fw (k : Nat) : Str := Str.ofString "q" ++ ⟨#[letters.cps.toList.getD (k / 26) 0]⟩ ++ ⟨#[letters.cps.toList.getD (k % 26) 0]⟩
instance (w : Str) : Decidable (WordOk w) := by unfold WordOk; exact inferInstance
theorem fw_ok : ∀ k < 13, WordOk (fw k) := by decide +kernel
theorem fw_inj : ∀ i < 13, ∀ j < 13, fw i = fw j → i = j := by decide +kernel
theorem nodup_sub {α : Type} [DecidableEq α] : ∀ (l m : List α), l.Nodup → (∀ x ∈ l, x ∈ m) → l.length ≤ m.length
  | [], _, _, _ => Nat.zero_le _
  | x :: l, m, nd, h => by
    obtain ⟨h1, h2⟩ := List.nodup_cons.mp nd
    have hx := h x List.mem_cons_self
    have ih := nodup_sub l (m.erase x) h2 fun y hy => (List.mem_erase_of_ne (fun e => h1 (by rw [← e]; exact hy))).mpr (h y (List.mem_cons_of_mem _ hy))
    rw [List.length_erase_of_mem hx] at ih
    have : 0 < m.length := List.length_pos_iff.mpr (List.ne_nil_of_mem hx)
    rw [List.length_cons]
    omega
theorem inV_iff (w : Str) (l : List Str) : inV (.str w) (l.map V.str) = decide (w ∈ l) := by
  unfold inV
  rw [List.any_map]
  cases e : decide (w ∈ l) with
  | true =>
    rw [List.any_eq_true]
    exact ⟨w, of_decide_eq_true e, by simp [eqV]⟩
  | false =>
    rw [List.any_eq_false]
    intro x hx z
    have : x = w := by simpa [eqV] using z
    exact of_decide_eq_false e (this ▸ hx)
theorem sz_at {z : Int} (h0 : 0 ≤ z) (h1 : z < 4) : ∃ sz : Nat, 1 ≤ sz ∧ sz ≤ 8 ∧ atI [V.int 1, .int 1, .int 2, .int 8] z = some (.int (sz : Int)) := by
  have : z = 0 ∨ z = 1 ∨ z = 2 ∨ z = 3 := by omega
  rcases this with rfl | rfl | rfl | rfl
  · exact ⟨1, by decide, by decide, rfl⟩
  · exact ⟨1, by decide, by decide, rfl⟩
  · exact ⟨2, by decide, by decide, rfl⟩
  · exact ⟨8, by decide, by decide, rfl⟩
theorem wd_at {z : Int} (h0 : 0 ≤ z) (h1 : z < 7) : ∃ w : Str, WordOk w ∧ atI [V.str "rest", .str "one", .str "up", .str "to", .str "without", .str "end", .str "unsaid"] z = some (.str w) := by
  have : z = 0 ∨ z = 1 ∨ z = 2 ∨ z = 3 ∨ z = 4 ∨ z = 5 ∨ z = 6 := by omega
  rcases this with rfl | rfl | rfl | rfl | rfl | rfl | rfl
  all_goals exact ⟨_, by decide +kernel, rfl⟩
/-- how things stand while a word is drawn -/
structure Lw (H0 : Hp) (pp cl sl : Addr) (names : List Str) (H' : Hp) : Prop where
  kp : Kp [pp, sl] H0 H'
  pl : ∃ dg, PoolAt H' pp cl dg
  sl : H' sl = some (.lst (names.map V.str))
theorem Lw.same {H0 H1 H2 : Hp} {pp cl sl : Addr} {names : List Str} (h : Lw H0 pp cl sl names H1) (k : Same H1 H2) : Lw H0 pp cl sl names H2 :=
  ⟨h.kp.trans (.of_same k), h.pl.imp fun _ p => p.same k, k _ _ h.sl⟩
theorem kp_sub {H1 H2 : Hp} {M M' : List Addr} (k : Kp M H1 H2) (hs : ∀ b ∈ M, b ∈ M') : Kp M' H1 H2 := fun b o e hb => k b o e fun z => hb (hs b z)
theorem Lw.step {H0 H1 H2 : Hp} {pp cl sl : Addr} {names : List Str} {dg : Int} (h : Lw H0 pp cl sl names H1) (hne : sl ≠ pp) (k : Kp [pp] H1 H2) (p : PoolAt H2 pp cl dg) : Lw H0 pp cl sl names H2 :=
  ⟨h.kp.trans (kp_sub k (by simp)), ⟨dg, p⟩, k _ _ h.sl (by simpa using hne)⟩
theorem PoolAt.pp_lst {H : Hp} {pp cl : Addr} {dg : Int} (h : PoolAt H pp cl dg) : ∃ xs, H pp = some (.lst xs) := by
  obtain ⟨⟨cells, ix, st, h1, _⟩, _⟩ := h
  exact ⟨_, h1⟩
theorem PoolAt.cl_lst {H : Hp} {pp cl : Addr} {dg : Int} (h : PoolAt H pp cl dg) : ∃ xs, H cl = some (.lst xs) := by
  obtain ⟨⟨cells, ix, st, _, h2, _⟩, _⟩ := h
  exact ⟨_, h2⟩
theorem PoolAt.upd {H : Hp} {pp cl D : Addr} {dg : Int} {o : HO} (h : PoolAt H pp cl dg) (h1 : pp ≠ D) (h2 : cl ≠ D) : PoolAt (upd H D o) pp cl dg := by
  obtain ⟨⟨cells, ix, st, a1, a2, a3, a4, a5, a6, a7⟩, a8⟩ := h
  exact pool_mk (by rw [upd_ne h1]; exact a1) (by rw [upd_ne h2]; exact a2) a3 a4 a5 a6 a7 a8
theorem kp_add {H H' : Hp} {M : List Addr} {D : Addr} {o : HO} (h : Kp M H H') (hD : H D = none) : Kp M H (upd H' D o) := fun b u e hb => by
  rw [upd_ne (ne_of_none e hD)]
  exact h b u e hb
def sp_lWord : Sp := fun vs H Q _ => ∃ (pp cl : Addr) (dg : Int) (sl : Addr) (names : List Str), vs = [.ref pp, .ref sl] ∧ PoolAt H pp cl dg ∧ H sl = some (.lst (names.map V.str)) ∧ names.length ≤ 12 ∧ sl ≠ pp ∧ sl ≠ cl ∧
  ∀ (wd : Str) dg' H', WordOk wd → wd ∉ names → Kp [pp, sl] H H' → PoolAt H' pp cl dg' → H' sl = some (.lst ((names ++ [wd]).map V.str)) → Q (.str wd) H'
def sp_lRows : Sp := fun vs H Q _ => ∃ (pp cl : Addr) (dg : Int), vs = [.ref pp, .int 5, .int 8, .int 4] ∧ PoolAt H pp cl dg ∧
  ∀ t la lb ps ms S dg' H', Kp [pp] H H' → PoolAt H' pp cl dg' → H' t = some (.tup [.ref la, .ref lb]) → RowsAt H' la lb ps ms S → S.Ok → WordsOk S → Q (.ref t) H'
/-- how things stand while the rows are drawn -/
structure Rz (H0 : Hp) (pp cl sl la : Addr) (lb : Option Addr) (ps ms : List Addr) (S : SyS) (H' : Hp) : Prop where
  kp : Kp [pp] H0 H'
  pl : ∃ dg, PoolAt H' pp cl dg
  sll : H' sl = some (.lst ((allWords S).map V.str))
  l1 : H' la = some (.lst (ps.map V.ref))
  pll : ps.length = S.simple.length
  pe : ∀ (i : Nat) (q : Addr) (e : Str × Int), ps[i]? = some q → S.simple[i]? = some e → H' q = some (.tup [.str e.1, .int e.2])
  l2 : ∀ b, lb = some b → H' b = some (.lst (ms.map V.ref)) ∧ b ≠ pp ∧ b ≠ cl ∧ b ≠ sl ∧ b ≠ la
  ml : ms.length = S.mult.length
  me : ∀ (i : Nat) (q : Addr) (r : Rw), ms[i]? = some q → S.mult[i]? = some r → H' q = some (.tup (rowV r))
  ok : S.Ok
  wo : WordsOk S
  n1 : sl ≠ pp
  n2 : sl ≠ cl
  n3 : la ≠ pp
  n4 : la ≠ cl
  n5 : la ≠ sl
/-- tuples and the lists of rows stay -/
theorem Rz.kpl {H0 H1 H2 : Hp} {pp cl sl la : Addr} {lb : Option Addr} {ps ms : List Addr} {S : SyS} {dg : Int} {names : List Str} (h : Rz H0 pp cl sl la lb ps ms S H1) (k : Kp [pp, sl] H1 H2) (p : PoolAt H2 pp cl dg) (hsl : H0 sl = none) (hs : H2 sl = some (.lst (names.map V.str))) :
    Kp [pp] H0 H2 ∧ H2 la = some (.lst (ps.map V.ref)) ∧ (∀ (i : Nat) (q : Addr) (e : Str × Int), ps[i]? = some q → S.simple[i]? = some e → H2 q = some (.tup [.str e.1, .int e.2])) ∧
    (∀ b, lb = some b → H2 b = some (.lst (ms.map V.ref))) ∧ ∀ (i : Nat) (q : Addr) (r : Rw), ms[i]? = some q → S.mult[i]? = some r → H2 q = some (.tup (rowV r)) := by
  obtain ⟨dg1, hp1⟩ := h.pl
  obtain ⟨xs, hx⟩ := hp1.pp_lst
  have tp : ∀ {q : Addr} {ys : List V}, H1 q = some (.tup ys) → H2 q = some (.tup ys) := fun {q ys} e => k q _ e (by
    intro z
    rcases List.mem_cons.mp z with z | z
    · rw [z, hx] at e
      cases e
    · rw [List.mem_singleton.mp z, h.sll] at e
      cases e)
  refine ⟨fun b o e hb => ?_, k _ _ h.l1 (by simp [h.n3, h.n5]), fun i q e h1 h2 => tp (h.pe i q e h1 h2), fun b hb => ?_, fun i q r h1 h2 => tp (h.me i q r h1 h2)⟩
  · refine k b o (h.kp b o e hb) fun z => ?_
    rcases List.mem_cons.mp z with z | z
    · exact hb (by rw [z]; exact List.mem_singleton.mpr rfl)
    · rw [List.mem_singleton.mp z, hsl] at e
      cases e
  · obtain ⟨h1, h2, h3, h4, h5⟩ := h.l2 b hb
    exact k _ _ h1 (by simp [h2, h4])
theorem Rz.step {H0 H1 H2 : Hp} {pp cl sl la : Addr} {lb : Option Addr} {ps ms : List Addr} {S : SyS} {dg : Int} (h : Rz H0 pp cl sl la lb ps ms S H1) (k : Kp [pp] H1 H2) (p : PoolAt H2 pp cl dg) (hsl : H0 sl = none) : Rz H0 pp cl sl la lb ps ms S H2 := by
  have hs := k _ _ h.sll (by simpa using h.n1)
  obtain ⟨a1, a2, a3, a4, a5⟩ := h.kpl (kp_sub k (by simp)) p hsl hs
  exact ⟨a1, ⟨dg, p⟩, hs, a2, h.pll, a3, fun b hb => ⟨a4 b hb, (h.l2 b hb).2⟩, h.ml, a5, h.ok, h.wo, h.n1, h.n2, h.n3, h.n4, h.n5⟩
theorem Rz.same {H0 H1 H2 : Hp} {pp cl sl la : Addr} {lb : Option Addr} {ps ms : List Addr} {S : SyS} (h : Rz H0 pp cl sl la lb ps ms S H1) (k : Same H1 H2) (hsl : H0 sl = none) : Rz H0 pp cl sl la lb ps ms S H2 := by
  obtain ⟨dg, p⟩ := h.pl
  exact h.step (.of_same k) (p.same k) hsl
/-- one more simple word -/
theorem Rz.simple {H0 H1 H2 : Hp} {pp cl sl la q : Addr} {ps : List Addr} {S : SyS} {dg : Int} {wd : Str} {v : Int} (h : Rz H0 pp cl sl la none ps [] S H1) (k : Kp [pp, sl] H1 H2) (p : PoolAt H2 pp cl dg) (hsl : H0 sl = none) (hla : H0 la = none) (hs : H2 sl = some (.lst ((allWords S ++ [wd]).map V.str)))
    (hq : H2 q = some (.tup [.str wd, .int v])) (hm : S.mult = []) (hw : WordOk wd) (hn : wd ∉ allWords S) (hv : 1 ≤ v ∧ v ≤ 8) (hl : S.simple.length ≤ 4) :
    Rz H0 pp cl sl la none (ps ++ [q]) [] { S with simple := S.simple ++ [(wd, v)] } (upd H2 la (.lst (ps.map V.ref ++ [.ref q]))) := by
  obtain ⟨a1, a2, a3, a4, a5⟩ := h.kpl k p hsl hs
  have aw : allWords { S with simple := S.simple ++ [(wd, v)] } = allWords S ++ [wd] := by
    simp [allWords, hm]
  have tp : ∀ {q : Addr} {ys : List V}, H2 q = some (.tup ys) → upd H2 la (.lst (ps.map V.ref ++ [.ref q])) q = some (.tup ys) := fun {q ys} e => by
    rw [upd_ne (ne_of e a2 (fun z => nomatch z))]
    exact e
  have ok := h.ok
  refine ⟨fun b o e hb => ?_, ⟨dg, p.upd h.n3.symm h.n4.symm⟩, ?_, ?_, ?_, fun i q' e h1 h2 => ?_, (fun b hb => nomatch hb), by rw [hm]; rfl, (fun i q' r h1 h2 => nomatch h1), ⟨fun x hx => ?_, ok.mv, ok.mc, ok.mr, ?_, ?_, ok.lm, ok.one⟩, fun x hx => ?_, h.n1, h.n2, h.n3, h.n4, h.n5⟩
  · rw [upd_ne (ne_of_none e hla)]
    exact a1 b o e hb
  · rw [upd_ne h.n5.symm, aw]
    exact hs
  · rw [upd_same, List.map_append]
    rfl
  · rw [List.length_append, h.pll]
    simp
  · have hlen := h.pll
    by_cases hi : i < ps.length
    · rw [List.getElem?_append_left hi] at h1
      rw [show ({ S with simple := S.simple ++ [(wd, v)] } : SyS).simple = S.simple ++ [(wd, v)] from rfl, List.getElem?_append_left (by omega)] at h2
      have := a3 i q' e h1 h2
      rw [upd_ne (ne_of this a2 (fun z => nomatch z))]
      exact this
    · have hi' : i = ps.length := by
        have := (List.getElem?_eq_some_iff.mp h1).1
        rw [List.length_append, List.length_singleton] at this
        omega
      subst hi'
      rw [List.getElem?_append_right (Nat.le_refl _), Nat.sub_self] at h1
      rw [show ({ S with simple := S.simple ++ [(wd, v)] } : SyS).simple = S.simple ++ [(wd, v)] from rfl, hlen, List.getElem?_append_right (Nat.le_refl _), Nat.sub_self] at h2
      cases h1
      cases h2
      rw [upd_ne (ne_of hq a2 (fun z => nomatch z))]
      exact hq
  · rcases List.mem_append.mp hx with z | z
    · exact ok.sv x z
    · rw [List.mem_singleton.mp z]
      exact hv
  · have : (allWords { S with simple := S.simple ++ [(wd, v)] }).Nodup := by
      rw [aw]
      exact List.nodup_append.mpr ⟨ok.nd, by simp, fun x hx y hy e => by
        rw [List.mem_singleton.mp hy] at e
        exact hn (e ▸ hx)⟩
    exact this
  · rw [List.length_append, List.length_singleton]
    omega
  · rw [aw] at hx
    rcases List.mem_append.mp hx with z | z
    · exact h.wo x z
    · rw [List.mem_singleton.mp z]
      exact hw
/-- one more multiplier -/
theorem Rz.mult {H0 H1 H2 : Hp} {pp cl sl la lb q : Addr} {ps ms : List Addr} {S : SyS} {dg : Int} {r : Rw} (h : Rz H0 pp cl sl la (some lb) ps ms S H1) (k : Kp [pp, sl] H1 H2) (p : PoolAt H2 pp cl dg) (hsl : H0 sl = none) (hlb : H0 lb = none) (hs : H2 sl = some (.lst ((allWords S ++ [r.w]).map V.str)))
    (hq : H2 q = some (.tup (rowV r))) (hw : WordOk r.w) (hn : r.w ∉ allWords S) (hv : 2 ≤ r.v ∧ r.v ≤ 9) (hc : ∀ c, r.most = some c → 1 ≤ c ∧ c ≤ 4) (hr : 0 ≤ r.rest ∧ r.rest < r.v) (hl : S.mult.length ≤ 2) (h1e : r.most = none → ∀ r' ∈ S.mult, r'.most ≠ none) :
    Rz H0 pp cl sl la (some lb) ps (ms ++ [q]) { S with mult := S.mult ++ [r] } (upd H2 lb (.lst (ms.map V.ref ++ [.ref q]))) := by
  obtain ⟨a1, a2, a3, a4, a5⟩ := h.kpl k p hsl hs
  obtain ⟨_, b2, b3, b4, b5⟩ := h.l2 lb rfl
  have a4' := a4 lb rfl
  have aw : allWords { S with mult := S.mult ++ [r] } = allWords S ++ [r.w] := by
    simp [allWords]
  have ok := h.ok
  have tp : ∀ {q' : Addr} {ys : List V}, H2 q' = some (.tup ys) → upd H2 lb (.lst (ms.map V.ref ++ [.ref q])) q' = some (.tup ys) := fun {q' ys} e => by
    rw [upd_ne (ne_of e a4' (fun z => nomatch z))]
    exact e
  refine ⟨fun b o e hb => ?_, ⟨dg, p.upd b2.symm b3.symm⟩, ?_, ?_, h.pll, fun i q' e h1 h2 => tp (a3 i q' e h1 h2), fun b hb => ?_, ?_, fun i q' r' h1 h2 => ?_, ⟨ok.sv, fun x hx => ?_, fun x hx => ?_, fun x hx => ?_, ?_, ok.ls, ?_, fun i j r1 r2 e1 e2 m1 m2 => ?_⟩, fun x hx => ?_, h.n1, h.n2, h.n3, h.n4, h.n5⟩
  · rw [upd_ne (ne_of_none e hlb)]
    exact a1 b o e hb
  · rw [upd_ne b4.symm, aw]
    exact hs
  · rw [upd_ne b5.symm]
    exact a2
  · cases hb
    refine ⟨?_, b2, b3, b4, b5⟩
    rw [upd_same, List.map_append]
    rfl
  · rw [List.length_append, h.ml]
    simp
  · have hlen := h.ml
    by_cases hi : i < ms.length
    · rw [List.getElem?_append_left hi] at h1
      rw [show ({ S with mult := S.mult ++ [r] } : SyS).mult = S.mult ++ [r] from rfl, List.getElem?_append_left (by omega)] at h2
      exact tp (a5 i q' r' h1 h2)
    · have hi' : i = ms.length := by
        have := (List.getElem?_eq_some_iff.mp h1).1
        rw [List.length_append, List.length_singleton] at this
        omega
      subst hi'
      rw [List.getElem?_append_right (Nat.le_refl _), Nat.sub_self] at h1
      rw [show ({ S with mult := S.mult ++ [r] } : SyS).mult = S.mult ++ [r] from rfl, hlen, List.getElem?_append_right (Nat.le_refl _), Nat.sub_self] at h2
      cases h1
      cases h2
      exact tp hq
  · rcases List.mem_append.mp hx with z | z
    · exact ok.mv x z
    · rw [List.mem_singleton.mp z]
      exact hv
  · rcases List.mem_append.mp hx with z | z
    · exact ok.mc x z
    · rw [List.mem_singleton.mp z]
      exact hc
  · rcases List.mem_append.mp hx with z | z
    · exact ok.mr x z
    · rw [List.mem_singleton.mp z]
      exact hr
  · have : (allWords { S with mult := S.mult ++ [r] }).Nodup := by
      rw [aw]
      exact List.nodup_append.mpr ⟨ok.nd, by simp, fun x hx y hy e => by
        rw [List.mem_singleton.mp hy] at e
        exact hn (e ▸ hx)⟩
    exact this
  · rw [List.length_append, List.length_singleton]
    omega
  · have key : ∀ {i : Nat} {x : Rw}, (S.mult ++ [r])[i]? = some x → S.mult[i]? = some x ∨ (i = S.mult.length ∧ x = r) := fun {i x} e => by
      by_cases hi : i < S.mult.length
      · rw [List.getElem?_append_left hi] at e
        exact .inl e
      · have := (List.getElem?_eq_some_iff.mp e).1
        rw [List.length_append, List.length_singleton] at this
        have hi' : i = S.mult.length := by omega
        subst hi'
        rw [List.getElem?_append_right (Nat.le_refl _), Nat.sub_self] at e
        exact .inr ⟨rfl, (Option.some.inj e).symm⟩
    rcases key e1 with z | ⟨z, rfl⟩
    · rcases key e2 with y | ⟨y, rfl⟩
      · exact ok.one i j r1 r2 z y m1 m2
      · exact absurd m1 (h1e m2 r1 (List.mem_of_getElem? z))
    · rcases key e2 with y | ⟨y, rfl⟩
      · exact absurd m2 (h1e m1 r2 (List.mem_of_getElem? y))
      · rw [z, y]
  · rw [aw] at hx
    rcases List.mem_append.mp hx with z | z
    · exact h.wo x z
    · rw [List.mem_singleton.mp z]
      exact hw
theorem hi_at {z : Int} (h0 : 0 ≤ z) (h1 : z < 2) : ∃ m : Int, 1 ≤ m ∧ m ≤ 8 ∧ atI [V.int 4, .int 8] z = some (.int m) := by
  have : z = 0 ∨ z = 1 := by omega
  rcases this with rfl | rfl
  · exact ⟨4, by decide, by decide, rfl⟩
  · exact ⟨8, by decide, by decide, rfl⟩
theorem rest_at {z v y : Int} (h0 : 0 ≤ z) (h1 : z < 3) (hv : 2 ≤ v) (hy : 0 ≤ y ∧ y < v) : ∃ m : Int, 0 ≤ m ∧ m < v ∧ atI [V.int 0, .int (v - 1), .int y] z = some (.int m) := by
  have : z = 0 ∨ z = 1 ∨ z = 2 := by omega
  rcases this with rfl | rfl | rfl
  · exact ⟨0, by decide, by omega, rfl⟩
  · exact ⟨v - 1, by omega, by omega, rfl⟩
  · exact ⟨y, hy.1, hy.2, rfl⟩
section
variable {P : Program} {w : World} {K : PySem.W.Frag} {mg : Str → Option Value} {base : Heap} {a : Ad}
theorem g_lPool (T : Txt K mg a) : FnOk P w K mg base CX0 1 a.f_lPool a.d_lPool ["_law_script"] (sp_lPool K) := by
  refine T.F_lPool.ok sc_lPool (fun vs H Q E h => ?_) (fun cdv A outer s H vs Q E hr h => ?_)
  · obtain ⟨p, ns, rfl, _⟩ := h
    rfl
  · obtain ⟨p, ns, rfl, hl, hn, k⟩ := h
    refine ⟨_, (pss_one (ps_ret (pe_lst (pa_cons (peg_lc (own := [("_law_cell", 1)]) (.inl rfl) sc_lPool.nd (pigL K (pv 0)) (blkOk_by (own := [("_law_cell", 1)]) (N := ["_law_script", "_law_cell"]) (sc := defScope s_lPool) (by decide +kernel)) (fun _ _ _ _ _ => (pg_name (i := 1) sc_lPool.nd rfl (.inl rfl))) (fun _ _ _ _ _ => pts_nil) (fun _ _ _ _ _ => (pe_ifExp (pt_cmpR op_ge (pv 1) pe_int (nomark _)) (pe_op op_mul pe_int (pv 1)) (pe_op op_sub (pe_op op_mul (pe_un un_neg pe_int) (pv 1)) pe_int)))) (pa_cons pe_int (pa_cons pe_int (pa_cons pe_int pa_nil))))))), ?_⟩
    refine ⟨_, rfl, p, rfl, ⟨_, hl⟩, fun D hD => lc_list (K := K) (a := p) (xs := ns.map V.int) (fun i H' => Same H H' ∧ ∃ cs : List Int, H' D = some (.lst (cs.map V.int)) ∧ cs.length = i ∧ ∀ c ∈ cs, 0 ≤ c)
      ⟨same_upd _ hD, [], upd_same, rfl, (fun c hc => nomatch hc)⟩ (fun i H' _ g => g.1.seq hl) ?_ ?_⟩
    · rintro i x H1 hx ⟨g, cs, e1, e2, e3⟩
      rw [List.getElem?_map] at hx
      obtain ⟨n, hn', rfl⟩ := Option.map_eq_some_iff.mp hx
      have hi : i < ns.length := (List.getElem?_eq_some_iff.mp hn').1
      have fin_ : ∀ c : Int, 0 ≤ c → ∃ acc, H1 D = some (.lst acc) ∧ acc.length < sizeLine ∧ (Same H (upd H1 D (.lst (acc ++ [V.int c]))) ∧ ∃ cs' : List Int, (upd H1 D (.lst (acc ++ [V.int c]))) D = some (.lst (cs'.map V.int)) ∧ cs'.length = i + 1 ∧ ∀ c ∈ cs', 0 ≤ c) := fun c hc => by
        refine ⟨_, e1, ?_, same_add g hD, cs ++ [c], ?_, by simp [e2], fun y hy => ?_⟩
        · rw [List.length_map]
          exact small_len (by omega)
        · rw [upd_same, List.map_append]
          rfl
        · rcases List.mem_append.mp hy with z | z
          · exact e3 y z
          · rw [List.mem_singleton.mp z]
            exact hc
      refine ⟨rfl, tYes_if ⟨_, rfl, _, _, rfl, rfl, _, rfl, ?_⟩⟩
      by_cases h0 : 0 ≤ n
      · rw [decide_eq_true h0]
        exact iteT ⟨_, rfl, _, _, rfl, rfl, .inl ⟨by decide, by decide⟩, fin_ _ (by omega)⟩
      · rw [decide_eq_false h0]
        exact iteF ⟨_, rfl, _, rfl, _, _, rfl, rfl, .inl ⟨by decide, by decide⟩, _, _, rfl, rfl, fin_ _ (by omega)⟩
    · rintro H1 ⟨g, cs, e1, e2, e3⟩
      refine ⟨by show 4 ≤ sizeLine; decide, fun pp hpp => k pp D _ (g.trans (same_upd _ hpp)) (pool_mk upd_same ((same_upd _ hpp) _ _ e1) (fun z => ?_) e3 (by decide) (by decide) (by decide) (by decide))⟩
      rw [z, hpp] at e1
      cases e1
theorem g_lTake_step {k : Nat} {sp0 : Sp} {only : Prop} (T : Txt K mg a) (G_lTake : FnOk P w K mg base CX0 k a.f_lTake a.d_lTake ["_law_pool_here", "_law_many"] sp0) (hsp : only ∨ sp0 = sp_lTake True) :
    FnOk P w K mg base CX0 (k + 1) a.f_lTake a.d_lTake ["_law_pool_here", "_law_many"] (sp_lTake only) := by
  refine T.F_lTake.ok sc_lTake (fun vs H Q E h => ?_) (fun cdv A outer s H vs Q E hr h => ?_)
  · obtain ⟨pp, cl, dg, many, rfl, _⟩ := h
    rfl
  · obtain ⟨pp, cl, dg, many, rfl, hp, hon, h1, h2, k⟩ := h
    refine ⟨_, (pss_cons (ps_if (pt_cmpR op_gt (pe_ix (ixL K) (pv 0) pe_int (fun _ _ => rfl)) pe_int (nomark _)) (pss_cons (ps_set (i := 2) sc_lTake.nd rfl (Or.inl rfl) (pe_op op_mod (pe_callTy call_int1 (by rfl) T.z_int (by decide +kernel) (pa_cons (pe_ix (ixL K) (pv 0) pe_int (fun _ _ => rfl)) pa_nil)) (pv 1)))
      (pss_cons (ps_asg (pe_op op_fdiv (pe_ix (ixL K) (pv 0) pe_int (fun _ _ => rfl)) (pv 1)) (pg_sub (pv 0) pe_int set_list))
      (pss_one (ps_ret (pv 2))))) pss_nil)
      (pss_cons (ps_set (i := 3) sc_lTake.nd rfl (Or.inl rfl) pe_int)
      (pss_cons (ps_if (pt_cmpR op_lt (pe_ix (ixL K) (pv 0) pe_int (fun _ _ => rfl)) (pe_callB (lenSeq K) (by rfl) T.z_len (by decide +kernel) (pa_cons (pe_ix (ixL K) (pv 0) pe_int (fun _ _ => rfl)) pa_nil)) (nomark _)) (pss_one (ps_set (i := 3) sc_lTake.nd rfl (Or.inl rfl) (pe_ix (ixL K) (pe_ix (ixL K) (pv 0) pe_int (fun _ _ => rfl)) (pe_ix (ixL K) (pv 0) pe_int (fun _ _ => rfl)) (fun _ _ => rfl)))) pss_nil)
      (pss_cons (ps_asg (pe_op op_add (pe_ix (ixL K) (pv 0) pe_int (fun _ _ => rfl)) pe_int) (pg_sub (pv 0) pe_int set_list))
      (pss_cons (ps_if (pt_cmpR op_ge (pv 3) (pe_op op_pow pe_int pe_int) (nomark _)) (pss_cons (ps_asg (pe_op op_fdiv (pv 3) pe_int) (pg_sub (pv 0) pe_int set_list))
      (pss_one (ps_ret (pe_call G_lTake (hr.mono (by omega)) (by rfl) T.m_lTake T.F_lTake.kp T.b_lTake .nil pass0 (pa_cons (pv 0) (pa_cons (pv 1) pa_nil)))))) pss_nil)
      (pss_cons (ps_asg (pe_op op_mod (pe_callTy call_int1 (by rfl) T.z_int (by decide +kernel) (pa_cons (pe_op op_add (pe_op op_add (pe_op op_mul (pe_ix (ixL K) (pv 0) pe_int (fun _ _ => rfl)) pe_int) (pe_op op_mul (pv 3) pe_int)) (pe_op op_mul (pe_ix (ixL K) (pv 0) pe_int (fun _ _ => rfl)) pe_int)) pa_nil)) pe_int) (pg_sub (pv 0) pe_int set_list))
      (pss_cons (ps_set (i := 4) sc_lTake.nd rfl (Or.inl rfl) (pe_op op_mod (pe_callTy call_int1 (by rfl) T.z_int (by decide +kernel) (pa_cons (pe_op op_add (pe_op op_add (pe_op op_mul (pe_ix (ixL K) (pv 0) pe_int (fun _ _ => rfl)) (pe_ix (ixL K) (pv 0) pe_int (fun _ _ => rfl))) (pe_op op_mul (pe_ix (ixL K) (pv 0) pe_int (fun _ _ => rfl)) pe_int)) pe_int) pa_nil)) pe_int))
      (pss_one (ps_ret (pe_op op_mod (pe_callTy call_int1 (by rfl) T.z_int (by decide +kernel) (pa_cons (pe_op op_fdiv (pv 4) pe_int) pa_nil)) (pv 1))))))))))), ?_⟩
    obtain ⟨⟨cells, ix, st, hpp, hcl, hne, hcs, hix, hst0, hst1⟩, hdg⟩ := hp
    refine ⟨_, rfl, pp, _, 2, .int dg, rfl, rfl, SqL.of hpp, rfl, _, _, rfl, rfl, _, rfl, ?_⟩
    by_cases h0 : 0 < dg
    · rw [decide_eq_true h0]
      refine iteT ⟨_, rfl, pp, _, 2, .int dg, rfl, rfl, SqL.of hpp, rfl, .inl ⟨_, rfl, _, rfl, _, _, rfl, rfl, by show 0 < many; omega, ?_⟩⟩
      refine ⟨_, rfl, pp, _, 2, .int dg, rfl, rfl, SqL.of hpp, rfl, _, rfl, _, _, rfl, rfl, ⟨by omega, by omega⟩, _, rfl, pp, _, 2, 2, rfl, rfl, hpp, rfl, _, rfl, ?_⟩
      have m := mod_rng (x := dg) (m := many) (by omega)
      refine k _ (dg / many) _ m.1 m.2 (fld_kp _) (pool_mk (cl := cl) (cells := cells) (ix := ix) (st := st) upd_same (by rw [upd_ne hne]; exact hcl) hne hcs hix hst0 hst1 (Int.ediv_nonneg hdg (by omega)))
    · rw [decide_eq_false h0]
      have hsp' : sp0 = sp_lTake True := hsp.resolve_left fun z => h0 (hon z)
      subst hsp'
      refine iteF ?_
      dsimp only [tNext]
      refine seq_set ?_
      refine seq_gen (fun σ' H' => ∃ c, σ' = [some (.ref pp), some (.int many), none, some (.int c), none] ∧ H = H' ∧ 0 ≤ c) (fun R hR => ?_) ?_
      · refine ⟨_, rfl, pp, _, 1, .int ix, rfl, rfl, SqL.of hpp, rfl, _, rfl, pp, _, 0, .ref cl, rfl, rfl, SqL.of hpp, rfl, cl, _, rfl, .inl (SqL.of hcl), _, _, rfl, rfl, _, rfl, ?_⟩
        rw [List.length_map]
        by_cases hlt : ix < (cells.length : Int)
        · rw [decide_eq_true hlt]
          obtain ⟨i, hi⟩ : ∃ i : Nat, ix = (i : Int) := ⟨ix.toNat, by omega⟩
          have hil : i < cells.length := by omega
          have hci : (cells.map V.int)[i]? = some (.int cells[i]) := by rw [List.getElem?_map, List.getElem?_eq_getElem hil]; rfl
          exact iteT ⟨_, rfl, pp, _, 0, .ref cl, rfl, rfl, SqL.of hpp, rfl, _, rfl, pp, _, 1, .int ix, rfl, rfl, SqL.of hpp, rfl, cl, _, ix, .int cells[i], rfl, rfl, SqL.of hcl, by rw [hi]; exact atI_nat hci, hR _ _ ⟨_, rfl, rfl, hcs _ (List.getElem_mem hil)⟩⟩
        · rw [decide_eq_false hlt]
          exact iteF (hR _ _ ⟨0, rfl, rfl, Int.le_refl _⟩)
      rintro σ' H' ⟨c, rfl, rfl, hc0⟩
      refine ⟨_, rfl, pp, _, 1, .int ix, rfl, rfl, SqL.of hpp, rfl, _, _, rfl, rfl, _, rfl, pp, _, 1, 1, rfl, rfl, hpp, rfl, ?_⟩
      obtain ⟨H1, hH1⟩ : ∃ H1, H1 = upd H pp (.lst ([V.ref cl, .int ix, .int dg, .int st].set 1 (.int (ix + 1)))) := ⟨_, rfl⟩
      have k1 : Kp [pp] H H1 := hH1 ▸ fld_kp _
      have p1 : H1 pp = some (.lst [.ref cl, .int (ix + 1), .int dg, .int st]) := hH1 ▸ upd_same
      have c1 : H1 cl = some (.lst (cells.map V.int)) := k1 _ _ hcl (by simpa using hne)
      rw [← hH1]
      refine ⟨_, rfl, _, _, rfl, rfl, ⟨by decide, by decide, by decide⟩, _, _, rfl, rfl, _, rfl, ?_⟩
      obtain ⟨b, hb⟩ : ∃ b, b = decide ((10 : Int) ^ (18 : Int).toNat ≤ c) := ⟨_, rfl⟩
      rw [← hb]
      cases b with
      | true =>
        have hbig : (10 : Int) ^ (18 : Int).toNat ≤ c := of_decide_eq_true hb.symm
        have h18 : (2 : Int) ≤ (10 : Int) ^ (18 : Int).toNat := by decide
        refine iteT ⟨_, rfl, _, _, rfl, rfl, ⟨by decide, by decide⟩, _, rfl, pp, _, 2, 2, rfl, rfl, p1, rfl, ?_⟩
        obtain ⟨H2, hH2⟩ : ∃ H2, H2 = upd H1 pp (.lst ([V.ref cl, .int (ix + 1), .int dg, .int st].set 2 (.int (c / 2)))) := ⟨_, rfl⟩
        have k2 : Kp [pp] H1 H2 := hH2 ▸ fld_kp _
        have p2 : H2 pp = some (.lst [.ref cl, .int (ix + 1), .int (c / 2), .int st]) := hH2 ▸ upd_same
        rw [← hH2]
        exact ⟨_, rfl, _, rfl, pp, cl, c / 2, many, rfl, pool_mk p2 (k2 _ _ c1 (by simpa using hne)) hne hcs (by omega) hst0 hst1 (by omega), fun _ => by omega, h1, h2, fun z dg' H3 z1 z2 k3 hp3 => k z dg' H3 z1 z2 ((k1.trans k2).trans k3) hp3⟩
      | false =>
        refine iteF ?_
        refine ⟨_, rfl, pp, _, 3, .int st, rfl, rfl, SqL.of p1, rfl, _, _, rfl, rfl, .inr ⟨by decide, by decide⟩, _, rfl, _, _, rfl, rfl, .inr ⟨by decide, by decide⟩, _, _, rfl, rfl, _, rfl, pp, _, 1, .int (ix + 1), rfl, rfl, SqL.of p1, rfl, _, _, rfl, rfl, .inr ⟨by decide, by decide⟩, _, _, rfl, rfl, .inl ⟨_, rfl, _, _, rfl, rfl, by show (0 : Int) < 2147483647; decide, _, rfl, pp, _, 3, 3, rfl, rfl, p1, rfl, ?_⟩⟩
        generalize hx : st * 48271 + c * 69621 + (ix + 1) * 613 = x
        have m := mod_rng (x := x) (m := 2147483647) (by decide)
        obtain ⟨H2, hH2⟩ : ∃ H2, H2 = upd H1 pp (.lst ([V.ref cl, .int (ix + 1), .int dg, .int st].set 3 (.int (x % 2147483647)))) := ⟨_, rfl⟩
        have k2 : Kp [pp] H1 H2 := hH2 ▸ fld_kp _
        have p2 : H2 pp = some (.lst [.ref cl, .int (ix + 1), .int dg, .int (x % 2147483647)]) := hH2 ▸ upd_same
        rw [← hH2]
        generalize hy : x % 2147483647 = y at p2 m
        refine ⟨_, rfl, pp, _, 3, .int y, rfl, rfl, SqL.of p2, rfl, _, rfl, pp, _, 3, .int y, rfl, rfl, SqL.of p2, rfl, _, _, rfl, rfl, .inl ⟨by omega, by omega⟩, _, rfl, pp, _, 3, .int y, rfl, rfl, SqL.of p2, rfl, _, _, rfl, rfl, .inr ⟨by decide, by decide⟩, _, _, rfl, rfl, _, _, rfl, rfl, .inl ⟨_, rfl, _, _, rfl, rfl, by show (0 : Int) < 1000000007; decide, ?_⟩⟩
        refine ⟨_, rfl, _, _, rfl, rfl, ⟨by decide, by decide⟩, .inl ⟨_, rfl, _, rfl, _, _, rfl, rfl, by show 0 < many; omega, ?_⟩⟩
        have m2 := mod_rng (x := (y * y + y * 7919 + 104729) % 1000000007 / 3) (m := many) (by omega)
        exact k _ dg H2 m2.1 m2.2 (k1.trans k2) (pool_mk p2 (k2 _ _ c1 (by simpa using hne)) hne hcs (by omega) m.1 m.2 hdg)
theorem g_lTake (T : Txt K mg a) : FnOk P w K mg base CX0 3 a.f_lTake a.d_lTake ["_law_pool_here", "_law_many"] (sp_lTake False) :=
  g_lTake_step T (g_lTake_step (only := True) T (g_no T.F_lTake sc_lTake).ok (.inl trivial)) (.inr rfl)
theorem g_lWord (T : Txt K mg a) (G_lTake : FnOk P w K mg base CX0 3 a.f_lTake a.d_lTake ["_law_pool_here", "_law_many"] (sp_lTake False)) : FnOk P w K mg base CX0 4 a.f_lWord a.d_lWord ["_law_pool_here", "_law_seen"] sp_lWord := by
  refine T.F_lWord.ok sc_lWord (fun vs H Q E h => ?_) (fun cdv A outer s H vs Q E hr h => ?_)
  · obtain ⟨pp, cl, dg, sl, names, rfl, _⟩ := h
    rfl
  · obtain ⟨pp, cl, dg, sl, names, rfl, hp, hs, hn, hne, hnc, k⟩ := h
    refine ⟨_, (pss_cons (ps_set (i := 2) sc_lWord.nd rfl (Or.inr rfl) pe_str)
      (pss_cons (ps_set (i := 3) sc_lWord.nd rfl (Or.inl rfl) (pe_ix (ixT K) (pe_tup (pa_cons pe_int (pa_cons pe_int (pa_cons pe_int (pa_cons pe_int pa_nil))))) (pe_call G_lTake (hr.mono (by omega)) (by rfl) T.m_lTake T.F_lTake.kp T.b_lTake .nil pass0 (pa_cons (pv 0) (pa_cons pe_int pa_nil))) (fun _ _ => rfl)))
      (pss_cons (ps_set (i := 4) sc_lWord.nd rfl (Or.inl rfl) (pe_join pe_str (peg_lc (own := [("_law_k", 6)]) (.inl rfl) sc_lWord.nd (pig_range1 (by rfl) T.z_range (pa_cons (pv 3) pa_nil)) (blkOk_by (own := [("_law_k", 6)]) (N := ["_law_pool_here", "_law_seen", "_law_letters", "_law_size", "_law_word_here", "_law_free", "_law_k", "_law_one"]) (sc := defScope s_lWord) (by decide +kernel)) (fun _ _ _ _ _ => (pg_name (i := 6) sc_lWord.nd rfl (.inl rfl))) (fun _ _ _ _ _ => pts_nil) (fun _ _ _ _ _ => (pe_ix ix_str (pv 2) (pe_call G_lTake (hr.mono (by omega)) (by rfl) T.m_lTake T.F_lTake.kp T.b_lTake .nil pass0 (pa_cons (pv 0) (pa_cons pe_int pa_nil))) (fun _ _ => rfl))))))
      (pss_cons (ps_if (pt_cmpR op_eq (pe_call G_lTake (hr.mono (by omega)) (by rfl) T.m_lTake T.F_lTake.kp T.b_lTake .nil pass0 (pa_cons (pv 0) (pa_cons pe_int pa_nil))) pe_int (nomark _)) (pss_one (ps_set (i := 4) sc_lWord.nd rfl (Or.inl rfl) (pe_ix (ixT K) (pe_tup (pa_cons pe_str (pa_cons pe_str (pa_cons pe_str (pa_cons pe_str (pa_cons pe_str (pa_cons pe_str (pa_cons pe_str pa_nil)))))))) (pe_call G_lTake (hr.mono (by omega)) (by rfl) T.m_lTake T.F_lTake.kp T.b_lTake .nil pass0 (pa_cons (pv 0) (pa_cons pe_int pa_nil))) (fun _ _ => rfl)))) pss_nil)
      (pss_cons (ps_if (pt_cmpR (inSeq K) (pv 4) (pv 1) (by rfl)) (pss_cons (psg_setLc (i := 5) (own := [("_law_k", 6)]) (.inl rfl) sc_lWord.nd rfl rfl (sw_true rfl rfl rfl (by decide +kernel)) (pig_range1 (by rfl) T.z_range (pa_cons (pe_op op_add (pe_callB (lenSeq K) (by rfl) T.z_len (by decide +kernel) (pa_cons (pv 1) pa_nil)) pe_int) pa_nil)) (blkOk_by (own := [("_law_k", 6)]) (N := ["_law_pool_here", "_law_seen", "_law_letters", "_law_size", "_law_word_here", "_law_free", "_law_k", "_law_one"]) (sc := defScope s_lWord) (by decide +kernel)) (fun _ _ _ _ _ => (pg_name (i := 6) sc_lWord.nd rfl (.inl rfl))) (fun _ _ _ _ _ => pts_nil) (fun _ _ _ _ _ => (pe_op op_add_str (pe_op op_add_str pe_str (pe_ix ix_str (pv 2) (pe_op op_fdiv (pv 6) pe_int) (fun _ _ => rfl))) (pe_ix ix_str (pv 2) (pe_op op_mod (pe_callTy call_int1 (by rfl) T.z_int (by decide +kernel) (pa_cons (pv 6) pa_nil)) pe_int) (fun _ _ => rfl)))))
      (pss_one (ps_set (i := 4) sc_lWord.nd rfl (Or.inl rfl) (pe_ix (ixL K) (peg_lc (own := [("_law_one", 7)]) (.inl rfl) sc_lWord.nd (pigL K (pv 5)) (blkOk_by (own := [("_law_one", 7)]) (N := ["_law_pool_here", "_law_seen", "_law_letters", "_law_size", "_law_word_here", "_law_free", "_law_k", "_law_one"]) (sc := defScope s_lWord) (by decide +kernel)) (fun _ _ _ _ _ => (pg_name (i := 7) sc_lWord.nd rfl (.inl rfl))) (fun _ _ _ _ _ => (pts_one (pt_cmpR (notInSeq K) (pv 7) (pv 1) (by rfl)))) (fun _ _ _ _ _ => (pv 7))) pe_int (fun _ _ => rfl))))) pss_nil)
      (pss_cons (ps_expr (pe_bm PySem.F.plainAttrs_list PySem.F.slot_list_append PySem.F.type_list_append mt_append (pv 1) (pa_cons (pv 4) pa_nil)))
      (pss_one (ps_ret (pv 4))))))))), ?_⟩
    have L0 : Lw H pp cl sl names H := ⟨.refl _ _, ⟨dg, hp⟩, hs⟩
    refine seq_set ?_
    refine seq_gen (fun σ' H' => ∃ sz : Nat, σ' = [some (.ref pp), some (.ref sl), some (.str letters), some (.int (sz : Int)), none, none, none, none] ∧ Lw H pp cl sl names H' ∧ 1 ≤ sz ∧ sz ≤ 8) (fun R hR => ?_) ?_
    · refine ⟨by show 4 ≤ sizeLine; decide, fun tp htp => ?_⟩
      have L1 := L0.same (same_upd (.tup [.int 1, .int 1, .int 2, .int 8]) htp)
      refine ⟨_, rfl, pp, cl, dg, 4, rfl, hp.same (same_upd _ htp), (fun z => z.elim), by decide, by decide, fun z dg1 H1 z0 z4 k1 hp1 => ?_⟩
      obtain ⟨sz, s1, s2, s3⟩ := sz_at z0 z4
      have ntp : tp ≠ pp := fun e => by
        obtain ⟨xs, hx⟩ := hp.pp_lst
        rw [e, hx] at htp
        cases htp
      exact ⟨tp, _, z, _, rfl, rfl, SqT.of (k1 _ _ upd_same (by simpa using ntp)), s3, hR _ _ ⟨sz, rfl, L1.step hne k1 hp1, s1, s2⟩⟩
    rintro σ' H1 ⟨sz, rfl, L1, s1, s2⟩
    refine seq_gen (fun σ' H' => ∃ wd : Str, σ' = [some (.ref pp), some (.ref sl), some (.str letters), some (.int (sz : Int)), some (.str wd), none, none, none] ∧ Lw H pp cl sl names H' ∧ WordOk wd) (fun R hR => ?_) ?_
    · refine ⟨⟨_, rfl⟩, _, rfl, _, rfl, by omega, by omega, fun D hD => ?_⟩
      have hnn : (sz : Int).toNat = sz := by omega
      rw [hnn]
      obtain ⟨dg1, hp1⟩ := L1.pl
      have nD : pp ≠ D ∧ cl ≠ D ∧ sl ≠ D := by
        obtain ⟨xs, hx⟩ := hp1.pp_lst
        obtain ⟨ys, hy⟩ := hp1.cl_lst
        exact ⟨ne_of_none hx hD, ne_of_none hy hD, ne_of_none L1.sl hD⟩
      refine lc_range (lo := 0) (n := sz) (fun i H' => ∃ cs : List Nat, H' D = some (.lst ((cs.map fun c => (⟨#[c]⟩ : Str)).map V.str)) ∧ cs.length = i ∧ (∀ c ∈ cs, c ∈ letters.cps.toList) ∧ Lw H pp cl sl names H')
        ⟨[], upd_same, rfl, (fun c hc => nomatch hc), L1.same (same_upd _ hD)⟩ ?_ ?_
      · rintro i H2 hi ⟨cs, e1, e2, e3, L2⟩
        obtain ⟨dg2, hp2⟩ := L2.pl
        refine ⟨rfl, tYes_if ⟨_, rfl, _, rfl, pp, cl, dg2, 26, rfl, hp2, (fun z => z.elim), by decide, by decide, fun z dg3 H3 z0 z26 k3 hp3 => ?_⟩⟩
        obtain ⟨j, rfl⟩ : ∃ j : Nat, z = (j : Int) := ⟨z.toNat, by omega⟩
        have hj : j < 26 := by omega
        have L3 := L2.step hne k3 hp3
        refine ⟨_, _, _, rfl, rfl, by show letters.length ≤ sizeLine; decide +kernel, atI_nat (lett hj), _, k3 _ _ e1 (by simpa using nD.1.symm), ?_, cs ++ [letters.cps.toList.getD j 0], ?_, by simp [e2], fun c hc => ?_, ?_⟩
        · rw [List.length_map, List.length_map]
          exact small_len (by omega)
        · rw [upd_same, List.map_append, List.map_append]
          rfl
        · rcases List.mem_append.mp hc with h | h
          · exact e3 c h
          · rw [List.mem_singleton.mp h]
            exact lett_in hj
        · refine ⟨fun b o e hb => ?_, ⟨dg3, hp3.upd nD.1 nD.2.1⟩, by rw [upd_ne nD.2.2]; exact L3.sl⟩
          have eb := L1.kp b o e hb
          rw [upd_ne (ne_of_none eb hD)]
          exact L3.kp b o e hb
      · rintro H2 ⟨cs, e1, e2, e3, L2⟩
        refine ⟨_, D, cs.map fun c => (⟨#[c]⟩ : Str), rfl, rfl, .inl (SqL.of e1), ?_, hR _ _ ⟨_, rfl, L2, word_of (by omega) (by omega) e3⟩⟩
        have hsum : ∀ l : List Nat, ((l.map fun c => (⟨#[c]⟩ : Str)).map (·.length)).sum = l.length := fun l => by
          induction l with
          | nil => rfl
          | cons x l ih =>
            rw [List.map_cons, List.map_cons, List.sum_cons, ih, List.length_cons]
            show 1 + _ = _
            omega
        rw [hsum, List.length_map]
        have : (Str.ofString "").length = 0 := by decide +kernel
        rw [this]
        omega
    rintro σ' H2 ⟨wd, rfl, L2, hw⟩
    refine seq_gen (fun σ' H' => ∃ wd : Str, σ' = [some (.ref pp), some (.ref sl), some (.str letters), some (.int (sz : Int)), some (.str wd), none, none, none] ∧ Lw H pp cl sl names H' ∧ WordOk wd) (fun R hR => ?_) ?_
    · obtain ⟨dg2, hp2⟩ := L2.pl
      refine ⟨_, rfl, pp, cl, dg2, 9, rfl, hp2, (fun z => z.elim), by decide, by decide, fun z dg3 H3 z0 z9 k3 hp3 => ⟨rfl, _, rfl, ?_⟩⟩
      have L3 := L2.step hne k3 hp3
      by_cases h1 : z = 1
      · rw [dint_t h1]
        refine iteT ⟨by show 7 ≤ sizeLine; decide, fun tp htp => ?_⟩
        have L4 := L3.same (same_upd (.tup [V.str "rest", .str "one", .str "up", .str "to", .str "without", .str "end", .str "unsaid"]) htp)
        refine ⟨_, rfl, pp, cl, dg3, 7, rfl, hp3.same (same_upd _ htp), (fun z => z.elim), by decide, by decide, fun z dg5 H5 z0 z7 k5 hp5 => ?_⟩
        obtain ⟨w2, hw2, hat⟩ := wd_at z0 z7
        have ntp : tp ≠ pp := fun e => by
          obtain ⟨xs, hx⟩ := hp3.pp_lst
          rw [e, hx] at htp
          cases htp
        exact ⟨tp, _, z, _, rfl, rfl, SqT.of (k5 _ _ upd_same (by simpa using ntp)), hat, hR _ _ ⟨w2, rfl, L4.step hne k5 hp5, hw2⟩⟩
      · rw [dint_f h1]
        exact iteF (hR _ _ ⟨wd, rfl, L3, hw⟩)
    rintro σ' H3 ⟨wd, rfl, L3, hw⟩
    refine seq_gen (fun σ' H' => ∃ (wd : Str) (v5 v6 v7 : Option V), σ' = [some (.ref pp), some (.ref sl), some (.str letters), some (.int (sz : Int)), some (.str wd), v5, v6, v7] ∧ Lw H pp cl sl names H' ∧ WordOk wd ∧ wd ∉ names) (fun R hR => ?_) ?_
    · refine ⟨_, rfl, _, rfl, sl, _, rfl, .inl (SqL.of L3.sl), rfl, flat_strs _, _, rfl, ?_⟩
      rw [inV_iff]
      by_cases hin : wd ∈ names
      · rw [decide_eq_true hin]
        refine iteT ⟨_, rfl, sl, _, rfl, .inl (SqL.of L3.sl), _, _, rfl, rfl, ?_⟩
        rw [List.length_map]
        refine ⟨_, rfl, by omega, by omega, fun D hD => ?_⟩
        have hnn : ((names.length : Int) + 1).toNat = names.length + 1 := by omega
        rw [hnn]
        refine lc_range (lo := 0) (n := names.length + 1) (fun i H' => Same H3 H' ∧ H' D = some (.lst (((List.range i).map fw).map V.str))) ⟨same_upd _ hD, upd_same⟩ ?_ ?_
        · rintro i H4 hi ⟨g1, g2⟩
          have e1 : (0 : Int) + (i : Int) = ((i : Nat) : Int) := by omega
          have e2 : ((i : Nat) : Int) / 26 = ((i / 26 : Nat) : Int) := by omega
          have e3 : ((i : Nat) : Int) % 26 = ((i % 26 : Nat) : Int) := by omega
          rw [e1]
          refine ⟨rfl, tYes_if ⟨_, rfl, _, rfl, _, _, rfl, rfl, ⟨by decide, by decide⟩, _, _, letters.cps.toList.getD (i / 26) 0, rfl, rfl, by show letters.length ≤ sizeLine; decide +kernel, by rw [e2]; exact atI_nat (lett (by omega)), _, _, rfl, rfl, ?_,
            _, rfl, _, rfl, .inl ⟨_, rfl, _, _, rfl, rfl, by show (0 : Int) < 26; decide, _, _, letters.cps.toList.getD (i % 26) 0, rfl, rfl, by show letters.length ≤ sizeLine; decide +kernel, by rw [e3]; exact atI_nat (lett (by omega)), _, _, rfl, rfl, ?_, _, g2, ?_, same_add g1 hD, ?_⟩⟩⟩
          · show (Str.ofString "q").length + 1 ≤ sizeLine
            decide +kernel
          · have : (Str.ofString "q" ++ (⟨#[letters.cps.toList.getD (i / 26) 0]⟩ : Str)).length = 2 := by
              show ((Str.ofString "q").cps ++ #[letters.cps.toList.getD (i / 26) 0]).size = 2
              rw [Array.size_append]
              have : (Str.ofString "q").cps.size = 1 := by decide +kernel
              rw [this]
              rfl
            rw [this]
            show 2 + 1 ≤ sizeLine
            decide
          · rw [List.length_map, List.length_map, List.length_range]
            exact small_len (by omega)
          · rw [upd_same, List.range_succ, List.map_append, List.map_append]
            rfl
        · rintro H4 ⟨g1, g2⟩
          have L4 := L3.same g1
          refine ⟨_, rfl, D, rfl, ⟨_, SqL.of g2⟩, fun D2 hD2 => lc_list (K := K) (a := D) (xs := ((List.range (names.length + 1)).map fw).map V.str)
            (fun i H' => Same H4 H' ∧ H' D2 = some (.lst (((((List.range (names.length + 1)).map fw).take i).filter fun x => !decide (x ∈ names)).map V.str))) ⟨same_upd _ hD2, upd_same⟩ (fun i H' _ g => SqL.of (g.1 _ _ g2)) ?_ ?_⟩
          · rintro i x H5 hx ⟨g3, g4⟩
            rw [List.getElem?_map] at hx
            obtain ⟨y, hy, rfl⟩ := Option.map_eq_some_iff.mp hx
            have hil : i < names.length + 1 := by
              have := (List.getElem?_eq_some_iff.mp hy).1
              rw [List.length_map, List.length_range] at this
              exact this
            refine ⟨rfl, _, rfl, _, rfl, sl, _, rfl, .inl (SqL.of (g3 _ _ L4.sl)), rfl, flat_strs _, _, rfl, ?_⟩
            rw [inV_iff]
            cases hb : decide (y ∈ names) with
            | false =>
              refine iteT ⟨_, rfl, _, g4, ?_, same_add g3 hD2, ?_⟩
              · rw [List.length_map]
                have h1 := List.length_filter_le (fun x => !decide (x ∈ names)) (((List.range (names.length + 1)).map fw).take i)
                rw [List.length_take] at h1
                exact small_len (by omega)
              · rw [upd_same, take_snoc hy, List.filter_append, List.map_append]
                simp [hb]
            | true =>
              refine iteF ⟨g3, ?_⟩
              rw [g4, take_snoc hy, List.filter_append]
              simp [hb]
          · rintro H5 ⟨g3, g4⟩
            rw [List.length_map, List.take_length] at g4
            cases hf : ((List.range (names.length + 1)).map fw).filter fun x => !decide (x ∈ names) with
            | nil =>
              exfalso
              have hall : ∀ x ∈ (List.range (names.length + 1)).map fw, x ∈ names := fun x hx => by
                have := List.filter_eq_nil_iff.mp hf x hx
                simpa using this
              have nd : ((List.range (names.length + 1)).map fw).Nodup := by
                refine List.Pairwise.map fw (R := fun a b => fw a ≠ fw b) (fun _ _ z => z) (List.Pairwise.imp_of_mem (R := fun a b => a ≠ b) ?_ List.nodup_range)
                intro x y hx hy hxy e
                rw [List.mem_range] at hx hy
                exact hxy (fw_inj x (by omega) y (by omega) e)
              have := nodup_sub _ _ nd hall
              rw [List.length_map, List.length_range] at this
              omega
            | cons y l =>
              rw [hf] at g4
              have hy : y ∈ ((List.range (names.length + 1)).map fw).filter fun x => !decide (x ∈ names) := by rw [hf]; exact List.mem_cons_self
              obtain ⟨h1, h2⟩ := List.mem_filter.mp hy
              obtain ⟨k', hk', rfl⟩ := List.mem_map.mp h1
              rw [List.mem_range] at hk'
              exact ⟨D2, _, 0, .str (fw k'), rfl, rfl, SqL.of g4, atI_nat (j := 0) rfl, hR _ _ ⟨_, _, _, _, rfl, L4.same g3, fw_ok k' (by omega), by simpa using h2⟩⟩
      · rw [decide_eq_false hin]
        exact iteF (hR _ _ ⟨wd, _, _, _, rfl, L3, hw, hin⟩)
    rintro σ' H4 ⟨wd, v5, v6, v7, rfl, L4, hw, hni⟩
    obtain ⟨dg4, hp4⟩ := L4.pl
    refine ⟨_, rfl, .inl ⟨rfl, _, SqL.of L4.sl⟩, _, rfl, sl, _, _, rfl, rfl, L4.sl, by rw [List.length_map]; exact small_len (by omega), ?_⟩
    have e1 : upd H4 sl (.lst (names.map V.str ++ [.str wd])) = upd H4 sl (.lst ((names ++ [wd]).map V.str)) := by rw [List.map_append]; rfl
    rw [e1]
    exact ⟨_, rfl, k wd dg4 _ hw hni (L4.kp.trans (kp_sub (fld_kp _) (by simp))) (hp4.upd hne.symm hnc.symm) upd_same⟩
theorem g_lRows (T : Txt K mg a) (G_lTake' : FnOk P w K mg base CX0 3 a.f_lTake a.d_lTake ["_law_pool_here", "_law_many"] (sp_lTake False)) (G_lWord : FnOk P w K mg base CX0 4 a.f_lWord a.d_lWord ["_law_pool_here", "_law_seen"] sp_lWord) : FnOk P w K mg base CX0 5 a.f_lRows a.d_lRows ["_law_pool_here", "_law_most", "_law_high", "_law_counts"] sp_lRows := by
  have G_lTake := G_lTake'.mono (k := 4) (by omega)
  refine T.F_lRows.ok sc_lRows (fun vs H Q E h => ?_) (fun cdv A outer s H vs Q E hr h => ?_)
  · obtain ⟨pp, cl, dg, rfl, _⟩ := h
    rfl
  · obtain ⟨pp, cl, dg, rfl, hp, k⟩ := h
    refine ⟨_, (pss_cons (ps_set (i := 4) sc_lRows.nd rfl (Or.inl rfl) (pe_lst pa_nil))
      (pss_cons (ps_set (i := 5) sc_lRows.nd rfl (Or.inl rfl) (pe_lst pa_nil))
      (pss_cons (psg_for PassesOwn.never (.inl rfl) (pig_range1 (by rfl) T.z_range (pa_cons (pe_call G_lTake (hr.mono (by omega)) (by rfl) T.m_lTake T.F_lTake.kp T.b_lTake .nil pass0 (pa_cons (pv 0) (pa_cons (pe_op op_add (pv 1) pe_int) pa_nil))) pa_nil)) (pg_name (i := 6) sc_lRows.nd rfl (.inl rfl))
      (pss_one (ps_expr (pe_bm PySem.F.plainAttrs_list PySem.F.slot_list_append PySem.F.type_list_append mt_append (pv 5) (pa_cons (pe_tup (pa_cons (pe_call G_lWord (hr.mono (by omega)) (by rfl) T.m_lWord T.F_lWord.kp T.b_lWord .nil pass0 (pa_cons (pv 0) (pa_cons (pv 4) pa_nil))) (pa_cons (pe_op op_add pe_int (pe_call G_lTake (hr.mono (by omega)) (by rfl) T.m_lTake T.F_lTake.kp T.b_lTake .nil pass0 (pa_cons (pv 0) (pa_cons (pe_ix (ixT K) (pe_tup (pa_cons pe_int (pa_cons (pv 2) pa_nil))) (pe_call G_lTake (hr.mono (by omega)) (by rfl) T.m_lTake T.F_lTake.kp T.b_lTake .nil pass0 (pa_cons (pv 0) (pa_cons pe_int pa_nil))) (fun _ _ => rfl)) pa_nil)))) pa_nil))) pa_nil)))))
      (pss_cons (ps_set (i := 7) sc_lRows.nd rfl (Or.inl rfl) (pe_lst pa_nil))
      (pss_cons (psg_for PassesOwn.never (.inl rfl) (pig_range1 (by rfl) T.z_range (pa_cons (pe_call G_lTake (hr.mono (by omega)) (by rfl) T.m_lTake T.F_lTake.kp T.b_lTake .nil pass0 (pa_cons (pv 0) (pa_cons pe_int pa_nil))) pa_nil)) (pg_name (i := 6) sc_lRows.nd rfl (.inl rfl))
      (pss_cons (ps_set (i := 8) sc_lRows.nd rfl (Or.inl rfl) (pe_op op_add pe_int (pe_call G_lTake (hr.mono (by omega)) (by rfl) T.m_lTake T.F_lTake.kp T.b_lTake .nil pass0 (pa_cons (pv 0) (pa_cons (pv 2) pa_nil)))))
      (pss_cons (ps_set (i := 9) sc_lRows.nd rfl (Or.inl rfl) (pe_op op_add pe_int (pe_call G_lTake (hr.mono (by omega)) (by rfl) T.m_lTake T.F_lTake.kp T.b_lTake .nil pass0 (pa_cons (pv 0) (pa_cons (pv 3) pa_nil)))))
      (pss_cons (ps_if (PW.pt (pw_and (pt_cmpR op_eq (pe_call G_lTake (hr.mono (by omega)) (by rfl) T.m_lTake T.F_lTake.kp T.b_lTake .nil pass0 (pa_cons (pv 0) (pa_cons pe_int pa_nil))) pe_int (nomark _)) (pw_and1 (pt_not (truthK K (peg_lc (own := [("_law_row", 11)]) (.inl rfl) sc_lRows.nd (pigL K (pv 7)) (blkOk_by (own := [("_law_row", 11)]) (N := ["_law_pool_here", "_law_most", "_law_high", "_law_counts", "_law_seen", "_law_simple", "_law_k", "_law_multipliers", "_law_value", "_law_count", "_law_rest", "_law_row"]) (sc := defScope s_lRows) (by decide +kernel)) (fun _ _ _ _ _ => (pg_name (i := 11) sc_lRows.nd rfl (.inl rfl))) (fun _ _ _ _ _ => (pts_one (pt_cmpR op_isN (pe_ix (ixT K) (pv 11) pe_int (fun _ _ => rfl)) pe_non (nomark _)))) (fun _ _ _ _ _ => (pv 11))) (by intro _; rfl)))))) (pss_one (ps_set (i := 9) sc_lRows.nd rfl (Or.inl rfl) pe_non)) pss_nil)
      (pss_cons (ps_set (i := 10) sc_lRows.nd rfl (Or.inl rfl) (pe_ix (ixT K) (pe_tup (pa_cons pe_int (pa_cons (pe_op op_sub (pv 8) pe_int) (pa_cons (pe_call G_lTake (hr.mono (by omega)) (by rfl) T.m_lTake T.F_lTake.kp T.b_lTake .nil pass0 (pa_cons (pv 0) (pa_cons (pv 8) pa_nil))) pa_nil)))) (pe_call G_lTake (hr.mono (by omega)) (by rfl) T.m_lTake T.F_lTake.kp T.b_lTake .nil pass0 (pa_cons (pv 0) (pa_cons pe_int pa_nil))) (fun _ _ => rfl)))
      (pss_one (ps_expr (pe_bm PySem.F.plainAttrs_list PySem.F.slot_list_append PySem.F.type_list_append mt_append (pv 7) (pa_cons (pe_tup (pa_cons (pe_call G_lWord (hr.mono (by omega)) (by rfl) T.m_lWord T.F_lWord.kp T.b_lWord .nil pass0 (pa_cons (pv 0) (pa_cons (pv 4) pa_nil))) (pa_cons (pv 8) (pa_cons (pv 9) (pa_cons (pe_cmpR op_eq (pe_call G_lTake (hr.mono (by omega)) (by rfl) T.m_lTake T.F_lTake.kp T.b_lTake .nil pass0 (pa_cons (pv 0) (pa_cons pe_int pa_nil))) pe_int (nomark _)) (pa_cons (pv 10) pa_nil)))))) pa_nil)))))))))
      (pss_one (ps_ret (pe_tup (pa_cons (pv 5) (pa_cons (pv 7) pa_nil)))))))))), ?_⟩
    refine ⟨z0, fun sl hsl => ⟨z0, fun la hla => ?_⟩⟩
    have nn0 : pp ≠ sl ∧ cl ≠ sl := by
      obtain ⟨xs, hx⟩ := hp.pp_lst
      obtain ⟨ys, hy⟩ := hp.cl_lst
      exact ⟨ne_of_none hx hsl, ne_of_none hy hsl⟩
    have hp1 := hp.same (same_upd (.lst []) hsl)
    have nn1 : pp ≠ la ∧ cl ≠ la ∧ sl ≠ la := by
      obtain ⟨xs, hx⟩ := hp1.pp_lst
      obtain ⟨ys, hy⟩ := hp1.cl_lst
      exact ⟨ne_of_none hx hla, ne_of_none hy hla, ne_of_none upd_same hla⟩
    have hla0 : H la = none := Same.free (same_upd (.lst []) hsl) hla
    have R0 : Rz H pp cl sl la none [] [] ⟨[], []⟩ (upd (upd H sl (.lst [])) la (.lst [])) := ⟨.of_same ((same_upd _ hsl).trans (same_upd _ hla)), ⟨dg, hp1.same (same_upd _ hla)⟩, (same_upd _ hla) _ _ upd_same, upd_same, rfl, (fun i q e h1 _ => nomatch h1), (fun b hb => nomatch hb), rfl, (fun i q r h1 _ => nomatch h1),
      ⟨(fun x hx => nomatch hx), (fun x hx => nomatch hx), (fun x hx => nomatch hx), (fun x hx => nomatch hx), by decide, by decide, by decide, (fun i j r q h1 => nomatch h1)⟩, (fun x hx => nomatch hx), nn0.1.symm, nn0.2.symm, nn1.1.symm, nn1.2.1.symm, nn1.2.2.symm⟩
    dsimp only [gName]
    refine seq_gen (fun σ' H' => ∃ (v6 : Option V) (ps : List Addr) (S : SyS), σ' = [some (.ref pp), some (.int 5), some (.int 8), some (.int 4), some (.ref sl), some (.ref la), v6, none, none, none, none, none] ∧ Rz H pp cl sl la none ps [] S H' ∧ S.mult = []) (fun R hR => ?_) ?_
    · obtain ⟨dg1, hp2⟩ := R0.pl
      refine ⟨_, rfl, _, rfl, _, _, rfl, rfl, pp, cl, dg1, 6, rfl, hp2, (fun z => z.elim), by decide, by decide, fun z dg2 H2 z0 z6 k2 hp3 => ⟨_, rfl, by omega, by omega, ?_⟩⟩
      have R2 := R0.step k2 hp3 hsl
      obtain ⟨n, rfl⟩ : ∃ n : Nat, z = (n : Int) := ⟨z.toNat, by omega⟩
      have hnn : ((n : Int)).toNat = n := by omega
      rw [hnn]
      refine for_range (lo := 0) (n := n) (fun i σ H' => ∃ (v6 : Option V) (ps : List Addr) (S : SyS), σ = [some (.ref pp), some (.int 5), some (.int 8), some (.int 4), some (.ref sl), some (.ref la), v6, none, none, none, none, none] ∧ Rz H pp cl sl la none ps [] S H' ∧ S.mult = [] ∧ S.simple.length = i)
        ⟨none, [], ⟨[], []⟩, rfl, R2, rfl, rfl⟩ ?_ ?_
      · rintro i σ H3 hi ⟨v6, ps, S, rfl, R3, hm, hsi⟩
        obtain ⟨dg3, hp4⟩ := R3.pl
        have haw : (allWords S).length ≤ 12 := by
          have := allWords_len R3.ok
          omega
        refine ⟨_, rfl, .inl ⟨rfl, _, SqL.of R3.l1⟩, _, rfl, _, rfl, pp, cl, dg3, sl, allWords S, rfl, hp4, R3.sll, haw, R3.n1, R3.n2, fun wd dg4 H4 hw hni k4 hp5 hs5 => ?_⟩
        refine ⟨_, rfl, _, rfl, z2, fun tp htp => ?_⟩
        have hp6 := hp5.same (same_upd (.tup [.int 4, .int 8]) htp)
        have ntp : tp ≠ pp := fun e => by
          obtain ⟨xs, hx⟩ := hp5.pp_lst
          rw [e, hx] at htp
          cases htp
        refine ⟨_, rfl, pp, cl, dg4, 2, rfl, hp6, (fun z => z.elim), by decide, by decide, fun z dg5 H5 z0' z2' k5 hp7 => ?_⟩
        obtain ⟨m, m1, m2, hat⟩ := hi_at z0' z2'
        refine ⟨tp, _, z, .int m, rfl, rfl, SqT.of (k5 _ _ upd_same (by simpa using ntp)), hat, pp, cl, dg5, m, rfl, hp7, (fun z => z.elim), m1, by omega, fun y dg6 H6 y0 y1 k6 hp8 => ?_⟩
        have k36 : Kp [pp, sl] H3 H6 := ((k4.trans (.of_same (same_upd _ htp))).trans (kp_sub k5 (by simp))).trans (kp_sub k6 (by simp))
        have hs6 : H6 sl = some (.lst ((allWords S ++ [wd]).map V.str)) := k6 _ _ (k5 _ _ ((same_upd _ htp) _ _ hs5) (by simpa using R3.n1)) (by simpa using R3.n1)
        refine ⟨_, _, rfl, rfl, z2, fun q hq => ?_⟩
        have k37 : Kp [pp, sl] H3 (upd H6 q (.tup [.str wd, .int (1 + y)])) := k36.trans (.of_same (same_upd _ hq))
        have R7 := R3.simple (wd := wd) (v := 1 + y) (q := q) k37 (hp8.same (same_upd _ hq)) hsl hla0 ((same_upd _ hq) _ _ hs6) upd_same hm hw hni (by omega) (by omega)
        refine ⟨la, _, _, rfl, rfl, k37 _ _ R3.l1 (by simp [R3.n3, R3.n5]), ?_, _, _, _, rfl, R7, hm, by simp [hsi]⟩
        rw [List.length_map, R3.pll]
        exact small_len (by omega)
      · rintro σ H3 ⟨v6, ps, S, rfl, R3, hm, hsi⟩
        exact hR _ _ ⟨v6, ps, S, rfl, R3, hm⟩
    rintro σ' H3 ⟨v6, ps, S0, rfl, R3, hm0⟩
    refine ⟨z0, fun lb hlb => ?_⟩
    have hlb0 : H lb = none := by
      cases e : H lb with
      | none => rfl
      | some o =>
        by_cases hb : lb = pp
        · obtain ⟨dg3, hp3⟩ := R3.pl
          obtain ⟨xs, hx⟩ := hp3.pp_lst
          rw [hb, hx] at hlb
          cases hlb
        · rw [R3.kp lb o e (by simpa using hb)] at hlb
          cases hlb
    have R4 : Rz H pp cl sl la (some lb) ps [] S0 (upd H3 lb (.lst [])) := by
      have Rs := R3.same (same_upd (.lst []) hlb) hsl
      obtain ⟨dg3, hp3⟩ := R3.pl
      obtain ⟨xs, hx⟩ := hp3.pp_lst
      obtain ⟨ys, hy⟩ := hp3.cl_lst
      have l2 : ∀ b, some lb = some b → upd H3 lb (.lst []) b = some (.lst (([] : List Addr).map V.ref)) ∧ b ≠ pp ∧ b ≠ cl ∧ b ≠ sl ∧ b ≠ la := fun b hb => by
        cases hb
        exact ⟨upd_same, (ne_of_none hx hlb).symm, (ne_of_none hy hlb).symm, (ne_of_none R3.sll hlb).symm, (ne_of_none R3.l1 hlb).symm⟩
      exact { Rs with l2 := l2 }
    dsimp only [gName]
    refine seq_gen (fun σ' H' => ∃ (v6 v8 v9 v10 v11 : Option V) (ms : List Addr) (S : SyS), σ' = [some (.ref pp), some (.int 5), some (.int 8), some (.int 4), some (.ref sl), some (.ref la), v6, some (.ref lb), v8, v9, v10, v11] ∧ Rz H pp cl sl la (some lb) ps ms S H') (fun R hR => ?_) ?_
    · obtain ⟨dg4, hp4⟩ := R4.pl
      refine ⟨_, rfl, pp, cl, dg4, 4, rfl, hp4, (fun z => z.elim), by decide, by decide, fun z dg5 H5 z0 z4 k5 hp5 => ⟨_, rfl, by omega, by omega, ?_⟩⟩
      have R5 := R4.step k5 hp5 hsl
      obtain ⟨n, rfl⟩ : ∃ n : Nat, z = (n : Int) := ⟨z.toNat, by omega⟩
      have hnn : ((n : Int)).toNat = n := by omega
      rw [hnn]
      refine for_range (lo := 0) (n := n) (fun i σ H' => ∃ (v6 v8 v9 v10 v11 : Option V) (ms : List Addr) (S : SyS), σ = [some (.ref pp), some (.int 5), some (.int 8), some (.int 4), some (.ref sl), some (.ref la), v6, some (.ref lb), v8, v9, v10, v11] ∧ Rz H pp cl sl la (some lb) ps ms S H' ∧ S.mult.length = i)
        ⟨v6, none, none, none, none, [], S0, rfl, R5, by rw [hm0]; rfl⟩ ?_ ?_
      · rintro i σ H6 hi ⟨v6, v8, v9, v10, v11, ms, S, rfl, R6, hsi⟩
        refine seq_gen (fun σ' H' => ∃ (v : Int) (v6 v9 v10 v11 : Option V), σ' = [some (.ref pp), some (.int 5), some (.int 8), some (.int 4), some (.ref sl), some (.ref la), v6, some (.ref lb), some (.int v), v9, v10, v11] ∧ Rz H pp cl sl la (some lb) ps ms S H' ∧ 2 ≤ v ∧ v ≤ 9) (fun R' hR' => ?_) ?_
        · obtain ⟨dg6, hp6⟩ := R6.pl
          exact ⟨_, rfl, _, rfl, pp, cl, dg6, 8, rfl, hp6, (fun z => z.elim), by decide, by decide, fun z dg7 H7 z0 z8 k7 hp7 => ⟨_, _, rfl, rfl, hR' _ _ ⟨2 + z, _, _, _, _, rfl, R6.step k7 hp7 hsl, by omega, by omega⟩⟩⟩
        rintro σ' H7 ⟨v, v6, v9, v10, v11, rfl, R7, hv1, hv2⟩
        refine seq_gen (fun σ' H' => ∃ (c : Int) (v6 v10 v11 : Option V), σ' = [some (.ref pp), some (.int 5), some (.int 8), some (.int 4), some (.ref sl), some (.ref la), v6, some (.ref lb), some (.int v), some (.int c), v10, v11] ∧ Rz H pp cl sl la (some lb) ps ms S H' ∧ 1 ≤ c ∧ c ≤ 4) (fun R' hR' => ?_) ?_
        · obtain ⟨dg6, hp6⟩ := R7.pl
          exact ⟨_, rfl, _, rfl, pp, cl, dg6, 4, rfl, hp6, (fun z => z.elim), by decide, by decide, fun z dg8 H8 z0 z8 k8 hp8 => ⟨_, _, rfl, rfl, hR' _ _ ⟨1 + z, _, _, _, rfl, R7.step k8 hp8 hsl, by omega, by omega⟩⟩⟩
        rintro σ' H8 ⟨c, v6, v10, v11, rfl, R8, hc1, hc2⟩
        refine seq_gen (fun σ' H' => ∃ (mo : Option Int) (v6 v10 v11 : Option V), σ' = [some (.ref pp), some (.int 5), some (.int 8), some (.int 4), some (.ref sl), some (.ref la), v6, some (.ref lb), some (.int v), some (mostV mo), v10, v11] ∧ Rz H pp cl sl la (some lb) ps ms S H' ∧ (∀ c, mo = some c → 1 ≤ c ∧ c ≤ 4) ∧ (mo = none → ∀ r' ∈ S.mult, r'.most ≠ none)) (fun R' hR' => ?_) ?_
        · obtain ⟨dg8, hp8⟩ := R8.pl
          refine ⟨_, rfl, pp, cl, dg8, 3, rfl, hp8, (fun z => z.elim), by decide, by decide, fun z dg9 H9 z0 z3' k9 hp9 => ⟨rfl, _, rfl, ?_⟩⟩
          have R9 := R8.step k9 hp9 hsl
          have keep : ∀ {H' : Hp}, Rz H pp cl sl la (some lb) ps ms S H' → R' [some (.ref pp), some (.int 5), some (.int 8), some (.int 4), some (.ref sl), some (.ref la), v6, some (.ref lb), some (.int v), some (.int c), v10, v11] H' := fun Rn => hR' _ _ ⟨some c, _, _, _, rfl, Rn, fun c' e => by cases e; exact ⟨hc1, hc2⟩, fun e => nomatch e⟩
          by_cases h1 : z = 1
          · rw [dint_t h1]
            have hb9 := (R9.l2 lb rfl).1
            refine iteT ⟨_, rfl, lb, rfl, ⟨_, SqL.of hb9⟩, fun D hD => lc_list (K := K) (a := lb) (xs := ms.map V.ref)
              (fun i H' => Same H9 H' ∧ ∃ qs : List Addr, H' D = some (.lst (qs.map V.ref)) ∧ qs.length ≤ i ∧ (qs = [] → ∀ (j : Nat) (r : Rw), j < i → S.mult[j]? = some r → r.most ≠ none)) ⟨same_upd _ hD, [], upd_same, Nat.le_refl _, fun _ j r h => absurd h (Nat.not_lt_zero _)⟩ (fun i H' _ g => SqL.of (g.1 _ _ hb9)) ?_ ?_⟩
            · rintro j x H10 hx ⟨g, qs, e1, e2, e3⟩
              rw [List.getElem?_map] at hx
              obtain ⟨q, hq, rfl⟩ := Option.map_eq_some_iff.mp hx
              have hjl : j < S.mult.length := R9.ml ▸ (List.getElem?_eq_some_iff.mp hq).1
              have hse : S.mult[j]? = some (S.mult[j]) := List.getElem?_eq_getElem hjl
              have ho := g _ _ (R9.me j q _ hq hse)
              refine ⟨rfl, _, rfl, q, _, 2, mostV (S.mult[j]).most, rfl, rfl, SqT.of ho, rfl, rfl, _, rfl, ?_⟩
              cases hmo : (S.mult[j]).most with
              | none => exact iteT ⟨_, rfl, _, e1, by rw [List.length_map]; exact small_len (by omega), same_add g hD, qs ++ [q], by rw [upd_same, List.map_append]; rfl, by rw [List.length_append, List.length_singleton]; omega, fun e => by simp at e⟩
              | some c' =>
                refine iteF ⟨g, qs, e1, by omega, fun e j' r hj' he => ?_⟩
                by_cases ej : j' = j
                · subst ej
                  rw [hse] at he
                  cases he
                  rw [hmo]
                  exact fun z => nomatch z
                · exact e3 e j' r (by omega) he
            · rintro H10 ⟨g, qs, e1, e2, e3⟩
              have R10 := R9.same g hsl
              refine ⟨!(qs.map V.ref).isEmpty, .inl ⟨_, SqL.of e1, rfl⟩, ?_⟩
              cases qs with
              | nil =>
                refine iteT (hR' _ _ ⟨none, _, _, _, rfl, R10, (fun c e => nomatch e), fun _ r' hr' => ?_⟩)
                obtain ⟨j, hj, rfl⟩ := List.mem_iff_getElem.mp hr'
                exact e3 rfl j _ (by rw [List.length_map, R9.ml]; exact hj) (List.getElem?_eq_getElem hj)
              | cons q qs => exact iteF (keep R10)
          · rw [dint_f h1]
            exact iteF (iteF (keep R9))
        rintro σ' H9 ⟨mo, v6, v10, v11, rfl, R9, hmo1, hmo2⟩
        refine seq_gen (fun σ' H' => ∃ (re : Int) (v6 v11 : Option V), σ' = [some (.ref pp), some (.int 5), some (.int 8), some (.int 4), some (.ref sl), some (.ref la), v6, some (.ref lb), some (.int v), some (mostV mo), some (.int re), v11] ∧ Rz H pp cl sl la (some lb) ps ms S H' ∧ 0 ≤ re ∧ re < v) (fun R' hR' => ?_) ?_
        · obtain ⟨dg9, hp9⟩ := R9.pl
          refine ⟨_, rfl, _, _, rfl, rfl, _, rfl, _, rfl, pp, cl, dg9, v, rfl, hp9, (fun z => z.elim), by omega, by omega, fun y dg10 H10 y0 y1 k10 hp10 => ⟨z3, fun tp htp => ?_⟩⟩
          have R10 := R9.step k10 hp10 hsl
          have R11 := R10.same (same_upd (.tup [.int 0, .int (v - 1), .int y]) htp) hsl
          have ntp : tp ≠ pp := fun e => by
            obtain ⟨xs, hx⟩ := hp10.pp_lst
            rw [e, hx] at htp
            cases htp
          refine ⟨_, rfl, pp, cl, dg10, 3, rfl, hp10.same (same_upd _ htp), (fun z => z.elim), by decide, by decide, fun z dg11 H11 z0 z3' k11 hp11 => ?_⟩
          obtain ⟨re, r0, r1, hat⟩ := rest_at z0 z3' hv1 ⟨y0, y1⟩
          exact ⟨tp, _, z, .int re, rfl, rfl, SqT.of (k11 _ _ upd_same (by simpa using ntp)), hat, hR' _ _ ⟨re, _, _, rfl, R11.step k11 hp11 hsl, r0, r1⟩⟩
        rintro σ' H10 ⟨re, v6, v11, rfl, R10, hr0, hr1⟩
        obtain ⟨dg10, hp10⟩ := R10.pl
        have haw : (allWords S).length ≤ 12 := by
          have := allWords_len R10.ok
          omega
        have hb10 := R10.l2 lb rfl
        refine ⟨_, rfl, .inl ⟨rfl, _, SqL.of hb10.1⟩, _, rfl, _, rfl, pp, cl, dg10, sl, allWords S, rfl, hp10, R10.sll, haw, R10.n1, R10.n2, fun wd dg4 H11 hw hni k4 hp5 hs5 => ?_⟩
        refine ⟨_, rfl, _, rfl, _, rfl, pp, cl, dg4, 2, rfl, hp5, (fun z => z.elim), by decide, by decide, fun z dg5 H12 z0' z2' k5 hp7 => ⟨rfl, _, rfl, by show 5 ≤ sizeLine; decide, fun q hq => ?_⟩⟩
        have k12 : Kp [pp, sl] H10 (upd H12 q (.tup [.str wd, .int v, mostV mo, .bl (decide (V.int z = V.int 1)), .int re])) := (k4.trans (kp_sub k5 (by simp))).trans (.of_same (same_upd _ hq))
        have hs12 : H12 sl = some (.lst ((allWords S ++ [wd]).map V.str)) := k5 _ _ hs5 (by simpa using R10.n1)
        have R13 := R10.mult (r := ⟨wd, v, mo, decide (V.int z = V.int 1), re⟩) (q := q) k12 (hp7.same (same_upd _ hq)) hsl hlb0 ((same_upd _ hq) _ _ hs12) upd_same hw hni ⟨hv1, hv2⟩ hmo1 ⟨hr0, hr1⟩ (by omega) hmo2
        refine ⟨lb, _, _, rfl, rfl, k12 _ _ hb10.1 (by simp [hb10.2.1, hb10.2.2.2.1]), ?_, _, _, _, _, _, _, _, rfl, R13, by simp [hsi]⟩
        rw [List.length_map, R10.ml]
        exact small_len (by omega)
      · rintro σ H6 ⟨v6, v8, v9, v10, v11, ms, S, rfl, R6, hsi⟩
        exact hR _ _ ⟨v6, v8, v9, v10, v11, ms, S, rfl, R6⟩
    rintro σ' H6 ⟨v6, v8, v9, v10, v11, ms, S, rfl, R6⟩
    refine ⟨_, rfl, _, rfl, z2, fun t ht => ?_⟩
    have R7 := R6.same (same_upd (.tup [.ref la, .ref lb]) ht) hsl
    obtain ⟨dg7, hp7⟩ := R7.pl
    exact k t la lb ps ms S dg7 _ R7.kp hp7 upd_same ⟨R7.l1, R7.pll, R7.pe, (R7.l2 lb rfl).1, R7.ml, R7.me⟩ R7.ok R7.wo
end
end K30
set_option Elab.async false
set_option linter.all false
set_option maxRecDepth 100000
set_option maxHeartbeats 4000000
/-! K30M: is what is told what is due. -/
namespace K30
open PySem PySem.Spec PyProof.Rows L2 L2H
open StX (pa_star)
open C8 (pe_gc)
/-- the same data, tuples as deep as n -/
def SameD : Nat → Hp → V → V → Prop
  | 0, _, x, y => x = y ∧ (x = .non ∨ (∃ b, x = .bl b) ∨ (∃ i, x = .int i) ∨ ∃ s, x = .str s)
  | n + 1, H, x, y => (x = y ∧ (x = .non ∨ (∃ b, x = .bl b) ∨ (∃ i, x = .int i) ∨ ∃ s, x = .str s)) ∨
      ∃ (p q : Addr) (xs ys : List V), x = .ref p ∧ y = .ref q ∧ H p = some (.tup xs) ∧ H q = some (.tup ys) ∧ xs.length = ys.length ∧ xs.length ≤ 1000000 ∧ ∀ (i : Nat) (u v : V), xs[i]? = some u → ys[i]? = some v → SameD n H u v
theorem SameD.same : ∀ {n : Nat} {H H' : Hp} {x y : V}, SameD n H x y → Same H H' → SameD n H' x y
  | 0, _, _, _, _, h, _ => h
  | n + 1, _, _, _, _, h, k => by
    rcases h with h | ⟨p, q, xs, ys, h1, h2, h3, h4, h5, h6, h7⟩
    · exact .inl h
    · exact .inr ⟨p, q, xs, ys, h1, h2, k _ _ h3, k _ _ h4, h5, h6, fun i u v a b => (h7 i u v a b).same k⟩
def sp_lIsInt : Sp := fun vs H Q _ => ∃ i : Int, vs = [.int i] ∧ Q (.bl true) H
def sp_lSame (n : Nat) : Sp := fun vs H Q _ => ∃ x y, vs = [x, y] ∧ SameD n H x y ∧ ∀ H', Same H H' → Q (.bl true) H'
section
variable {P : Program} {w : World} {K : PySem.W.Frag} {mg : Str → Option Value} {base : Heap} {a : Ad}
theorem g_lIsInt (T : Txt K mg a) : FnG P w K mg base 1 a.f_lIsInt a.d_lIsInt ["_law_actual"] sp_lIsInt := by
  refine okG T.F_lIsInt sc_lIsInt (fun vs H Q E h => ?_) (fun c pn cdv A outer s H vs Q E hc hr h => ?_)
  · obtain ⟨i, rfl, _⟩ := h
    rfl
  · obtain ⟨i, rfl, k⟩ := h
    refine ⟨_, (pss_one (ps_ret (pe_and (pe_callB call_isi (by rfl) T.z_isinstance (by decide +kernel) (pa_cons (pv 0) (pa_cons (pe_bltn (v := .ty "int") (by rfl) T.z_int (by decide +kernel) rfl) pa_nil))) (pe_one (pe_not (pe_callB call_isi (by rfl) T.z_isinstance (by decide +kernel) (pa_cons (pv 0) (pa_cons (pe_bltn (v := .ty "bool") (by rfl) T.z_bool (by decide +kernel) rfl) pa_nil)))))))), ?_⟩
    exact ⟨_, rfl, _, _, _, _, true, rfl, .ty _, .base (.int i), kit_ty (by decide +kernel), _, rfl, iteT ⟨_, rfl, _, _, _, _, false, rfl, .ty _, .base (.int i), kit_ty (by decide +kernel), _, rfl, k⟩⟩
theorem g_lSame_step {k n : Nat} {sp0 : Sp} (T : Txt K mg a) (hk : 1 ≤ k) (G_lSame : FnG P w K mg base k a.f_lSame a.d_lSame ["_law_actual", "_law_due"] sp0) (G_lIsInt' : FnG P w K mg base 1 a.f_lIsInt a.d_lIsInt ["_law_actual"] sp_lIsInt) (hsp : n = 0 ∨ ∃ m, n = m + 1 ∧ sp0 = sp_lSame m) :
    FnG P w K mg base (k + 1) a.f_lSame a.d_lSame ["_law_actual", "_law_due"] (sp_lSame n) := by
  have G_lIsInt := G_lIsInt'.mono (k := k) hk
  refine okG T.F_lSame sc_lSame (fun vs H Q E h => ?_) (fun c pn cdv A outer s H vs Q E hc hr h => ?_)
  · obtain ⟨x, y, rfl, _⟩ := h
    rfl
  · obtain ⟨x, y, rfl, hs, q⟩ := h
    refine ⟨_, (pss_cons (ps_if (pt_val (pe_callB call_isi (by rfl) T.z_isinstance (by decide +kernel) (pa_cons (pv 1) (pa_cons (pe_bltn (v := .ty "tuple") (by rfl) T.z_tuple (by decide +kernel) rfl) pa_nil)))) (pss_cons (ps_if (PW.pt (pw_or (pt_not (pt_val (pe_callB call_isi (by rfl) T.z_isinstance (by decide +kernel) (pa_cons (pv 0) (pa_cons (pe_bltn (v := .ty "tuple") (by rfl) T.z_tuple (by decide +kernel) rfl) pa_nil))))) (pw_or1 (pt_cmpR op_ne (pe_callB (lenSeq K) (by rfl) T.z_len (by decide +kernel) (pa_cons (pv 0) pa_nil)) (pe_callB (lenSeq K) (by rfl) T.z_len (by decide +kernel) (pa_cons (pv 1) pa_nil)) (nomark _))))) (pss_one (ps_ret pe_bl)) pss_nil)
      (pss_one (ps_ret (pe_callB (cg_all hc) (by rfl) T.z_all (by decide +kernel) (pa_cons (peg_lc (own := [("_law_k", 2)]) hc sc_lSame.nd (pig_range1 (by rfl) T.z_range (pa_cons (pe_callB (lenSeq K) (by rfl) T.z_len (by decide +kernel) (pa_cons (pv 1) pa_nil)) pa_nil)) (blkOk_by (own := [("_law_k", 2)]) (N := ["_law_actual", "_law_due", "_law_k"]) (sc := defScope s_lSame) (by decide +kernel)) (fun _ _ _ _ _ => (pg_name (i := 2) sc_lSame.nd rfl (.inl rfl))) (fun _ _ _ _ _ => pts_nil) (fun _ _ _ _ _ => (peg_call hc G_lSame (hr.mono (by omega)) (by rfl) T.m_lSame T.F_lSame.kp T.b_lSame (pa_cons (pe_ix (ixT K) (pv 0) (pv 2) (fun _ _ => rfl)) (pa_cons (pe_ix (ixT K) (pv 1) (pv 2) (fun _ _ => rfl)) pa_nil))))) pa_nil))))) pss_nil)
      (pss_cons (ps_if (pt_val (pe_callB call_isi (by rfl) T.z_isinstance (by decide +kernel) (pa_cons (pv 1) (pa_cons (pe_bltn (v := .ty "list") (by rfl) T.z_list (by decide +kernel) rfl) pa_nil)))) (pss_cons (ps_if (PW.pt (pw_or (pt_not (pt_val (pe_callB call_isi (by rfl) T.z_isinstance (by decide +kernel) (pa_cons (pv 0) (pa_cons (pe_bltn (v := .ty "list") (by rfl) T.z_list (by decide +kernel) rfl) pa_nil))))) (pw_or1 (pt_cmpR op_ne (pe_callB (lenSeq K) (by rfl) T.z_len (by decide +kernel) (pa_cons (pv 0) pa_nil)) (pe_callB (lenSeq K) (by rfl) T.z_len (by decide +kernel) (pa_cons (pv 1) pa_nil)) (nomark _))))) (pss_one (ps_ret pe_bl)) pss_nil)
      (pss_one (ps_ret (pe_callB (cg_all hc) (by rfl) T.z_all (by decide +kernel) (pa_cons (peg_lc (own := [("_law_k", 2)]) hc sc_lSame.nd (pig_range1 (by rfl) T.z_range (pa_cons (pe_callB (lenSeq K) (by rfl) T.z_len (by decide +kernel) (pa_cons (pv 1) pa_nil)) pa_nil)) (blkOk_by (own := [("_law_k", 2)]) (N := ["_law_actual", "_law_due", "_law_k"]) (sc := defScope s_lSame) (by decide +kernel)) (fun _ _ _ _ _ => (pg_name (i := 2) sc_lSame.nd rfl (.inl rfl))) (fun _ _ _ _ _ => pts_nil) (fun _ _ _ _ _ => (peg_call hc G_lSame (hr.mono (by omega)) (by rfl) T.m_lSame T.F_lSame.kp T.b_lSame (pa_cons (pe_ix (ixT K) (pv 0) (pv 2) (fun _ _ => rfl)) (pa_cons (pe_ix (ixT K) (pv 1) (pv 2) (fun _ _ => rfl)) pa_nil))))) pa_nil))))) pss_nil)
      (pss_cons (ps_if (pt_cmpR op_isN (pv 1) pe_non (nomark _)) (pss_one (ps_ret (pe_cmpR op_isN (pv 0) pe_non (nomark _)))) pss_nil)
      (pss_cons (ps_if (pt_val (pe_callB call_isi (by rfl) T.z_isinstance (by decide +kernel) (pa_cons (pv 1) (pa_cons (pe_bltn (v := .ty "bool") (by rfl) T.z_bool (by decide +kernel) rfl) pa_nil)))) (pss_one (ps_ret (pe_and (pe_callB call_isi (by rfl) T.z_isinstance (by decide +kernel) (pa_cons (pv 0) (pa_cons (pe_bltn (v := .ty "bool") (by rfl) T.z_bool (by decide +kernel) rfl) pa_nil))) (pe_one (pe_cmpR op_eq (pv 0) (pv 1) (nomark _)))))) pss_nil)
      (pss_cons (ps_if (pt_val (pe_callB call_isi (by rfl) T.z_isinstance (by decide +kernel) (pa_cons (pv 1) (pa_cons (pe_bltn (v := .ty "str") (by rfl) T.z_str (by decide +kernel) rfl) pa_nil)))) (pss_one (ps_ret (pe_and (pe_callB call_isi (by rfl) T.z_isinstance (by decide +kernel) (pa_cons (pv 0) (pa_cons (pe_bltn (v := .ty "str") (by rfl) T.z_str (by decide +kernel) rfl) pa_nil))) (pe_one (pe_cmpR op_eq (pv 0) (pv 1) (nomark _)))))) pss_nil)
      (pss_one (ps_ret (pe_and (peg_call hc G_lIsInt (hr.mono (by omega)) (by rfl) T.m_lIsInt T.F_lIsInt.kp T.b_lIsInt (pa_cons (pv 0) pa_nil)) (pe_one (pe_cmpR op_eq (pv 0) (pv 1) (nomark _))))))))))), ?_⟩
    have atom : ∀ {z : V} {ty : String}, TyX K H z (.type ty) → True := fun _ => trivial
    have cas : (x = y ∧ (x = .non ∨ (∃ b, x = .bl b) ∨ (∃ i, x = .int i) ∨ ∃ s, x = .str s)) ∨ ∃ m, n = m + 1 ∧ ∃ (p q : Addr) (xs ys : List V), x = .ref p ∧ y = .ref q ∧ H p = some (.tup xs) ∧ H q = some (.tup ys) ∧ xs.length = ys.length ∧ xs.length ≤ 1000000 ∧ ∀ (i : Nat) (u v : V), xs[i]? = some u → ys[i]? = some v → SameD m H u v := by
      cases n with
      | zero => exact .inl hs
      | succ m => exact hs.imp id fun h => ⟨m, rfl, h⟩
    rcases cas with ⟨rfl, rfl | ⟨b, rfl⟩ | ⟨i, rfl⟩ | ⟨t, rfl⟩⟩ | ⟨m, rfl, p, r, xs, ys, rfl, rfl, hx, hy, hl, hz, hd⟩
    · refine ⟨_, rfl, _, _, _, _, false, rfl, .ty _, .base .non, kit_ty (by decide +kernel), _, rfl, iteF ?_⟩
      refine ⟨_, rfl, _, _, _, _, false, rfl, .ty _, .base .non, kit_ty (by decide +kernel), _, rfl, iteF ?_⟩
      exact ⟨_, rfl, rfl, _, rfl, iteT ⟨_, rfl, rfl, q H (.refl H)⟩⟩
    · refine ⟨_, rfl, _, _, _, _, false, rfl, .ty _, .base (.bl b), kit_ty (by decide +kernel), _, rfl, iteF ?_⟩
      refine ⟨_, rfl, _, _, _, _, false, rfl, .ty _, .base (.bl b), kit_ty (by decide +kernel), _, rfl, iteF ?_⟩
      refine ⟨_, rfl, rfl, _, rfl, iteF ?_⟩
      refine ⟨_, rfl, _, _, _, _, true, rfl, .ty _, .base (.bl b), kit_ty (by decide +kernel), _, rfl, iteT ?_⟩
      refine ⟨_, rfl, _, _, _, _, true, rfl, .ty _, .base (.bl b), kit_ty (by decide +kernel), _, rfl, iteT ⟨_, rfl, _, rfl, rfl, ?_⟩⟩
      rw [decide_eq_true rfl]
      exact q H (.refl H)
    · refine ⟨_, rfl, _, _, _, _, false, rfl, .ty _, .base (.int i), kit_ty (by decide +kernel), _, rfl, iteF ?_⟩
      refine ⟨_, rfl, _, _, _, _, false, rfl, .ty _, .base (.int i), kit_ty (by decide +kernel), _, rfl, iteF ?_⟩
      refine ⟨_, rfl, rfl, _, rfl, iteF ?_⟩
      refine ⟨_, rfl, _, _, _, _, false, rfl, .ty _, .base (.int i), kit_ty (by decide +kernel), _, rfl, iteF ?_⟩
      refine ⟨_, rfl, _, _, _, _, false, rfl, .ty _, .base (.int i), kit_ty (by decide +kernel), _, rfl, iteF ?_⟩
      refine ⟨_, rfl, i, rfl, _, rfl, iteT ⟨_, rfl, _, rfl, rfl, ?_⟩⟩
      rw [decide_eq_true rfl]
      exact q H (.refl H)
    · refine ⟨_, rfl, _, _, _, _, false, rfl, .ty _, .base (.str t), kit_ty (by decide +kernel), _, rfl, iteF ?_⟩
      refine ⟨_, rfl, _, _, _, _, false, rfl, .ty _, .base (.str t), kit_ty (by decide +kernel), _, rfl, iteF ?_⟩
      refine ⟨_, rfl, rfl, _, rfl, iteF ?_⟩
      refine ⟨_, rfl, _, _, _, _, false, rfl, .ty _, .base (.str t), kit_ty (by decide +kernel), _, rfl, iteF ?_⟩
      refine ⟨_, rfl, _, _, _, _, true, rfl, .ty _, .base (.str t), kit_ty (by decide +kernel), _, rfl, iteT ?_⟩
      refine ⟨_, rfl, _, _, _, _, true, rfl, .ty _, .base (.str t), kit_ty (by decide +kernel), _, rfl, iteT ⟨_, rfl, _, rfl, rfl, ?_⟩⟩
      rw [decide_eq_true rfl]
      exact q H (.refl H)
    · have hsp' : sp0 = sp_lSame m := by
        rcases hsp with z | ⟨m', z, e⟩
        · omega
        · have : m' = m := by omega
          rw [e, this]
      subst hsp'
      refine ⟨_, rfl, _, _, _, _, true, rfl, .ty _, .base (.tup hy), kit_ty (by decide +kernel), _, rfl, iteT ?_⟩
      refine ⟨_, rfl, _, _, _, _, true, rfl, .ty _, .base (.tup hx), kit_ty (by decide +kernel), _, rfl, iteF ?_⟩
      refine ⟨_, rfl, p, _, rfl, .inr (SqT.of hx), _, rfl, r, _, rfl, .inr (SqT.of hy), rfl, _, rfl, ?_⟩
      rw [dint_t (by omega)]
      refine iteF ⟨_, rfl, r, _, rfl, .inr (SqT.of hy), _, rfl, by omega, by omega, fun D hD => ?_⟩
      have hnn : ((ys.length : Int)).toNat = ys.length := by omega
      rw [hnn]
      refine lc_range (lo := 0) (n := ys.length) (fun i H' => Same H H' ∧ H' D = some (.lst ((List.replicate i true).map V.bl))) ⟨same_upd _ hD, upd_same⟩ ?_ ?_
      · rintro i H1 hi ⟨g1, g2⟩
        have e1 : (0 : Int) + (i : Int) = ((i : Nat) : Int) := by omega
        rw [e1]
        have hxi : xs[i]? = some (xs[i]'(hl ▸ hi)) := List.getElem?_eq_getElem _
        have hyi : ys[i]? = some ys[i] := List.getElem?_eq_getElem hi
        refine ⟨rfl, tYes_if ⟨_, rfl, _, rfl, p, xs, i, xs[i]'(hl ▸ hi), rfl, rfl, SqT.of (g1 _ _ hx), atI_nat hxi, _, rfl, _, rfl, r, ys, i, ys[i], rfl, rfl, SqT.of (g1 _ _ hy), atI_nat hyi, _, _, rfl, (hd i _ _ hxi hyi).same g1, fun H2 s2 => ⟨_, s2 _ _ g2, ?_, same_add (g1.trans s2) hD, ?_⟩⟩⟩
        · rw [List.length_map, List.length_replicate]
          exact mil_line (by omega)
        · rw [upd_same, List.replicate_succ', List.map_append]
          rfl
      · rintro H1 ⟨g1, g2⟩
        refine ⟨D, _, rfl, SqL.of g2, ?_⟩
        have e : (List.replicate ys.length true).all id = true := by
          rw [List.all_eq_true]
          intro x hx
          rw [List.eq_of_mem_replicate hx]
          rfl
        rw [e]
        exact q H1 g1
theorem g_lSame (T : Txt K mg a) : ∀ n : Nat, FnG P w K mg base (n + 2) a.f_lSame a.d_lSame ["_law_actual", "_law_due"] (sp_lSame n)
  | 0 => g_lSame_step T (by omega) (g_no T.F_lSame sc_lSame) (g_lIsInt T) (.inl rfl)
  | n + 1 => g_lSame_step T (by omega) (g_lSame T n) (g_lIsInt T) (.inr ⟨n, rfl, rfl⟩)
end
end K30
set_option Elab.async false
set_option linter.all false
set_option maxRecDepth 100000
set_option maxHeartbeats 4000000
/-! K30N: the words that a number may begin with. -/
namespace K30
open PySem PySem.Spec PyProof.Rows L2 L2H
open StX (pa_star)
open C8 (pe_gc)
/-- w may begin the number n -/
def Starts (S : SyS) (n : Int) (w : Str) : Prop := ∃ q, Der S n (w :: q)
def StR (S : SyS) (n : Int) (r : Rw) (w : Str) : Prop := 0 < n / r.v ∧ n - n / r.v * r.v ≤ r.rest ∧ (∀ c, r.most = some c → n / r.v ≤ c) ∧ (n - n / r.v * r.v = 0 ∨ ∃ p, Der S (n - n / r.v * r.v) p) ∧ (if r.uns = true ∧ n / r.v = 1 then w = r.w else Starts S (n / r.v) w)
theorem starts_iff {S : SyS} (ok : S.Ok) {n : Int} (w : Str) : Starts S n w ↔ (w, n) ∈ S.simple ∨ ∃ r ∈ S.mult, StR S n r w := by
  constructor
  · rintro ⟨q, d⟩
    rcases d.inv with ⟨x, h, e⟩ | ⟨r, g, t, pc, pr, hr, hc, ht, rfl, e⟩
    · cases e
      exact .inl h
    · have hv := ok.mv r hr
      have hrr := ok.mr r hr
      have tb := ht.bd ok hr
      have e1 : (g * r.v + t) / r.v = g := by
        rw [Int.add_comm, Int.add_mul_ediv_right t g (by omega), Int.ediv_eq_zero_of_lt tb.1 (by omega), Int.zero_add]
      have e2 : g * r.v + t - g * r.v = t := by omega
      refine .inr ⟨r, hr, ?_⟩
      unfold StR
      rw [e1, e2]
      refine ⟨hc.pos, tb.2, fun c hm => ?_, ht.imp (fun z => z.1) fun z => ⟨pr, z.2⟩, ?_⟩
      · rcases hc with ⟨rfl, _, _⟩ | ⟨hs, _⟩
        · exact (ok.mc r hr c hm).1
        · exact hs.2 c hm
      · rcases hc with ⟨rfl, hu, rfl⟩ | ⟨hs, d'⟩
        · rw [if_pos ⟨hu, rfl⟩]
          exact (List.cons.inj e).1
        · rw [if_neg (fun z => by have := hs.1; rw [if_pos z.1, z.2] at this; omega)]
          obtain ⟨x, pc', rfl⟩ := List.exists_cons_of_ne_nil (d'.pos ok).2
          have : w = x := (List.cons.inj e).1
          exact ⟨pc', this ▸ d'⟩
  · rintro (h | ⟨r, hr, h1, h2, h3, h4, h5⟩)
    · exact ⟨[], .simple h⟩
    · have hv := ok.mv r hr
      obtain ⟨pr, hp⟩ : ∃ pr, RestD S r (n - n / r.v * r.v) pr := by
        rcases h4 with h | ⟨p, d⟩
        · exact ⟨[], .inl ⟨h, rfl⟩⟩
        · exact ⟨p, .inr ⟨h2, d⟩⟩
      have en : n / r.v * r.v + (n - n / r.v * r.v) = n := by omega
      by_cases hu : r.uns = true ∧ n / r.v = 1
      · rw [if_pos hu] at h5
        have := Der.make (g := n / r.v) (pc := []) hr (.inl ⟨hu.2, hu.1, rfl⟩) hp
        rw [en] at this
        exact ⟨pr, h5 ▸ this⟩
      · rw [if_neg hu] at h5
        obtain ⟨q, d⟩ := h5
        have hs : Spoken r (n / r.v) := by
          refine ⟨?_, h3⟩
          by_cases hu' : r.uns = true
          · rw [if_pos hu']
            have : n / r.v ≠ 1 := fun e => hu ⟨hu', e⟩
            omega
          · rw [if_neg hu']
            omega
        have := Der.make hr (.inr ⟨hs, d⟩) hp
        rw [en] at this
        exact ⟨q ++ r.w :: pr, this⟩
theorem first_in {S : SyS} {n : Int} {p : List Str} (d : Der S n p) : ∀ w q, p = w :: q → w ∈ allWords S := by
  induction d with
  | simple h =>
    intro w q e
    cases e
    exact List.mem_append_left _ (List.mem_map.mpr ⟨_, h, rfl⟩)
  | bare h _ =>
    intro w q e
    cases e
    exact List.mem_append_right _ (List.mem_map.mpr ⟨_, h, rfl⟩)
  | bareR h _ _ _ _ =>
    intro w q e
    cases e
    exact List.mem_append_right _ (List.mem_map.mpr ⟨_, h, rfl⟩)
  | @mul r g pc h _ _ ih =>
    intro w q e
    cases pc with
    | nil =>
      cases e
      exact List.mem_append_right _ (List.mem_map.mpr ⟨_, h, rfl⟩)
    | cons x l => exact ih w l (by rw [(List.cons.inj e).1])
  | @mulR r g t pc pr h _ _ _ _ ih _ =>
    intro w q e
    cases pc with
    | nil =>
      cases e
      exact List.mem_append_right _ (List.mem_map.mpr ⟨_, h, rfl⟩)
    | cons x l => exact ih w l (by rw [(List.cons.inj e).1])
def kcode1 : L2.Key → Nat
  | .inl i => i.toNat
  | _ => 0
def bS (n : Nat) : Nat := if n < 2 then 5 else if n < 4 then 20 else if n < 8 then 65 else if n < 16 then 200 else if n < 32 then 605 else 1820
theorem bS_half {n g : Nat} (h1 : 2 ≤ n) (h2 : n < 64) (hg : 2 * g ≤ n) : 5 + 3 * bS g ≤ bS n := by
  unfold bS
  repeat' split
  all_goals omega
theorem bS_mono {n g : Nat} (h : g ≤ n) (h2 : n < 64) : bS g ≤ bS n := by
  unfold bS
  repeat' split
  all_goals omega
theorem bS_pos (n : Nat) : 5 ≤ bS n ∧ bS n ≤ 1820 := by
  unfold bS
  repeat' split
  all_goals omega
/-- the list of words at l -/
def StAt (H : Hp) (l : Addr) (S : SyS) (n : Nat) (ws : List Str) : Prop := H l = some (.lst (ws.map V.str)) ∧ ws.length ≤ bS n ∧ ∀ w, w ∈ ws ↔ Starts S n w
/-- what is known of the beginnings -/
structure KsAt (H : Hp) (kd : Addr) (S : SyS) : Prop where
  ex : ∃ kvs : List (L2.Key × V), H kd = some (.dK kvs) ∧ (kvs.map (·.1)).Nodup ∧ ∀ k v, valV kvs k = some v → ∃ (n : Nat) (ws : List Str) (l : Addr), k = .inl (n : Int) ∧ v = .ref l ∧ 1 ≤ n ∧ n < 64 ∧ StAt H l S n ws
def sp_lStarts (lv : Nat) : Sp := fun vs H Q _ => ∃ (t la lb kd : Addr) (ps ms : List Addr) (S : SyS) (n : Nat), vs = [.ref t, .int n, .ref kd] ∧ H t = some (.tup [.ref la, .ref lb]) ∧ RowsAt H la lb ps ms S ∧ S.Ok ∧ WordsOk S ∧ KsAt H kd S ∧ 1 ≤ n ∧ n < 2 ^ lv ∧ n < 64 ∧
  ∀ l ws H', Kp [kd] H H' → KsAt H' kd S → StAt H' l S n ws → Q (.ref l) H'
theorem ifS_gen {c : TT} {A B : TS} {D : Ends} {σ : L2.St} {H : Hp} (M : Bool → Hp → Prop) (h : ∀ R : Bool → Hp → Prop, (∀ b H', M b H' → R b H') → c σ H R) (h1 : ∀ H', M true H' → A D σ H') (h2 : ∀ H', M false H' → B D σ H') : tIfS c A B D σ H :=
  h _ fun b H' m => by
    cases b with
    | true => exact iteT (h1 H' m)
    | false => exact iteF (h2 H' m)
theorem StAt.to {H H' : Hp} {l : Addr} {S : SyS} {n : Nat} {ws : List Str} (h : StAt H l S n ws) (k : H' l = H l) : StAt H' l S n ws := ⟨k.trans h.1, h.2⟩
theorem KsAt.same {H H' : Hp} {kd : Addr} {S : SyS} (h : KsAt H kd S) (k : Same H H') : KsAt H' kd S := by
  obtain ⟨kvs, e1, e2, e3⟩ := h.ex
  refine ⟨kvs, k _ _ e1, e2, fun key v hv => ?_⟩
  obtain ⟨n, ws, l, a1, a2, a3, a4, a5⟩ := e3 key v hv
  exact ⟨n, ws, l, a1, a2, a3, a4, k _ _ a5.1, a5.2⟩
theorem KsAt.len {H : Hp} {kd : Addr} {S : SyS} (h : KsAt H kd S) : ∀ kvs, H kd = some (.dK kvs) → kvs.length < sizeLine := by
  intro kvs e
  obtain ⟨kvs', e1, e2, e3⟩ := h.ex
  rw [e1] at e
  cases e
  have hk : ∀ k ∈ kvs.map (·.1), ∃ n : Nat, k = Sum.inl (n : Int) ∧ n < 64 := fun k hk => by
    cases e : valV kvs k with
    | none => exact absurd hk (valV_not e)
    | some v =>
      obtain ⟨n, _, _, a1, _, _, a4, _⟩ := e3 k v e
      exact ⟨n, a1, a4⟩
  have nd : ((kvs.map (·.1)).map kcode1).Nodup := by
    refine List.Pairwise.map kcode1 (R := fun a b => kcode1 a ≠ kcode1 b) (fun _ _ z => z) (List.Pairwise.imp_of_mem (R := fun a b => a ≠ b) ?_ e2)
    intro x y hx hy hne e
    obtain ⟨n, rfl, _⟩ := hk x hx
    obtain ⟨m, rfl, _⟩ := hk y hy
    have e' : (n : Int).toNat = (m : Int).toNat := e
    have : n = m := by omega
    exact hne (by rw [this])
  have := nat_box 64 _ nd fun x hx => by
    obtain ⟨k, hk1, rfl⟩ := List.mem_map.mp hx
    obtain ⟨n, rfl, hn⟩ := hk k hk1
    show (n : Int).toNat < 64
    omega
  rw [List.length_map, List.length_map] at this
  exact small_len (by omega)
theorem KsAt.put {H : Hp} {kd l : Addr} {S : SyS} {n : Nat} {ws : List Str} {kvs : List (L2.Key × V)} (h : KsAt H kd S) (hk : H kd = some (.dK kvs)) (hs : StAt H l S n ws) (n1 : 1 ≤ n) (n2 : n < 64) :
    KsAt (upd H kd (.dK (putK kvs (Sum.inl (n : Int)) (.ref l)))) kd S ∧ StAt (upd H kd (.dK (putK kvs (Sum.inl (n : Int)) (.ref l)))) l S n ws := by
  have st : ∀ {l' : Addr} {m : Nat} {ws' : List Str}, StAt H l' S m ws' → StAt (upd H kd (.dK (putK kvs (Sum.inl (n : Int)) (.ref l)))) l' S m ws' := fun {l' m ws'} z => z.to (by rw [upd_ne (ne_of z.1 hk (fun e => nomatch e))])
  obtain ⟨kvs', e1, e2, e3⟩ := h.ex
  rw [hk] at e1
  cases e1
  refine ⟨⟨_, upd_same, nd_put _ e2, fun key v hv => ?_⟩, st hs⟩
  rw [valV_put] at hv
  split at hv
  · rename_i z
    exact ⟨n, ws, l, z, (Option.some.inj hv).symm, n1, n2, st hs⟩
  · obtain ⟨m, ws', l', a1, a2, a3, a4, a5⟩ := e3 key v hv
    exact ⟨m, ws', l', a1, a2, a3, a4, st a5⟩
theorem RowsAt.kp {H H' : Hp} {la lb kd : Addr} {ps ms : List Addr} {S : SyS} {kvs : List (L2.Key × V)} (h : RowsAt H la lb ps ms S) (k : Kp [kd] H H') (hk : H kd = some (.dK kvs)) : RowsAt H' la lb ps ms S := by
  have z : ∀ {b : Addr} {o : HO}, H b = some o → (∀ kvs, o ≠ .dK kvs) → H' b = some o := fun {b o} e ne => k _ _ e (by
    rw [List.mem_singleton]
    intro y
    rw [y, hk] at e
    exact ne _ (Option.some.inj e).symm)
  exact ⟨z h.l1 (fun _ e => nomatch e), h.pl, fun i q e a b => z (h.pe i q e a b) (fun _ e => nomatch e), z h.l2 (fun _ e => nomatch e), h.ml, fun i q e a b => z (h.me i q e a b) (fun _ e => nomatch e)⟩
theorem dpAll_strs {K : PySem.W.Frag} {H : Hp} : ∀ ws : List Str, DpAll K H (ws.map V.str) (ws.map PyData.str)
  | [] => .nil
  | w :: ws => .cons (.str w) (dpAll_strs ws)
theorem canLay_strs : ∀ ws : List Str, (∀ w ∈ ws, WordOk w) → PyData.canLayAll0 (ws.map PyData.str) = true
  | [], _ => rfl
  | w :: ws, h => by
    show (PyData.strOk w && PyData.canLayAll0 (ws.map PyData.str)) = true
    rw [canLay_strs ws fun x hx => h x (List.mem_cons_of_mem _ hx), Bool.and_true]
    unfold PyData.strOk
    rw [Array.all_eq_true_iff_forall_mem]
    intro c hc
    have h1 := (h w List.mem_cons_self).2.2 c (Array.mem_toList_iff.mpr hc)
    have h2 : ∀ c ∈ letters.cps.toList, c < 0x110000 := by decide +kernel
    exact decide_eq_true (h2 c h1)
theorem depth_strs : ∀ ws : List Str, PyData.depthAll (ws.map PyData.str) ≤ 1
  | [] => by decide
  | w :: ws => by
    have ih := depth_strs ws
    show max (PyData.depth (.str w)) (PyData.depthAll (ws.map PyData.str)) ≤ 1
    have : PyData.depth (.str w) ≤ 1 := by first | exact Nat.le_refl 1 | exact Nat.zero_le 1
    omega
theorem shaped_strs {ws : List Str} (h : ∀ w ∈ ws, WordOk w) : SeqAt.shaped (.list (ws.map PyData.str)) = true := by
  unfold SeqAt.shaped
  rw [Bool.and_eq_true]
  refine ⟨canLay_strs ws h, decide_eq_true ?_⟩
  have := depth_strs ws
  show PyData.depthAll (ws.map PyData.str) + 1 ≤ 64
  omega
theorem ne_nil {K : PySem.W.Frag} {H : Hp} {l e : Addr} {ws : List Str} {Q : VK} (hl : H l = some (.lst (ws.map V.str))) (he : H e = some (.lst [])) (h : ∀ w ∈ ws, WordOk w) (q : Q (.bl (!ws.isEmpty)) H) : rNeD K (.ref l) (.ref e) H Q := by
  refine ⟨.list (ws.map PyData.str), .list [], .lst (SqL.of hl) (dpAll_strs ws), .lst (SqL.of he) .nil, shaped_strs h, shaped_strs (ws := []) (fun _ z => nomatch z), ?_⟩
  have : PyData.eqv (.list (ws.map PyData.str)) (.list []) = ws.isEmpty := by
    cases ws <;> rfl
  rw [this]
  exact q
section
variable {P : Program} {w : World} {K : PySem.W.Frag} {mg : Str → Option Value} {base : Heap} {a : Ad}
theorem g_lStarts_step {k lv : Nat} {sp0 : Sp} (T : Txt K mg a) (G_lStarts : FnOk P w K mg base CX0 k a.f_lStarts a.d_lStarts ["_law_rows_here", "_law_number", "_law_known"] sp0) (hsp : lv = 0 ∨ ∃ m, lv = m + 1 ∧ sp0 = sp_lStarts m) :
    FnOk P w K mg base CX0 (k + 1) a.f_lStarts a.d_lStarts ["_law_rows_here", "_law_number", "_law_known"] (sp_lStarts lv) := by
  refine T.F_lStarts.ok sc_lStarts (fun vs H Q E h => ?_) (fun cdv A outer s H vs Q E hr h => ?_)
  · obtain ⟨t, la, lb, kd, ps, ms, S, n, rfl, _⟩ := h
    rfl
  · obtain ⟨t, la, lb, kd, ps, ms, S, n, rfl, ht, ra, ok, wo, ks, n1, n2, n3, q⟩ := h
    have hu64 : (A.deeper (envOfC "_law_starts" (defScope s_lStarts) s.heap.objs.size a.f_lStarts cdv)).units + 64 < cLine := by
      have := hr.un
      omega
    refine ⟨_, (pss_cons (ps_if (pt_cmp (pc_dnotin (huH (roomH_of hr)) (pv 1) (pv 2))) (pss_cons (psg_setLc (i := 3) (own := [("_law_word_here", 4), ("_law_value", 5)]) (.inl rfl) sc_lStarts.nd rfl rfl (sw_true rfl rfl rfl (by decide +kernel)) (pigL K (pe_ix (ixT K) (pv 0) pe_int (fun _ _ => rfl))) (blkOk_by (own := [("_law_word_here", 4), ("_law_value", 5)]) (N := ["_law_rows_here", "_law_number", "_law_known", "_law_found", "_law_word_here", "_law_value", "_law_most", "_law_is_unsaid", "_law_last", "_law_count", "_law_rest"]) (sc := defScope s_lStarts) (by decide +kernel)) (fun _ _ _ _ _ => (pgT K 2 (.inl rfl) (pgs_cons (pg_name (i := 4) sc_lStarts.nd rfl (.inl rfl)) (pgs_cons (pg_name (i := 5) sc_lStarts.nd rfl (.inl rfl)) pgs_nil)))) (fun _ _ _ _ _ => (pts_one (pt_cmpR op_eq (pv 5) (pv 1) (nomark _)))) (fun _ _ _ _ _ => (pv 4)))
      (pss_cons (psg_for PassesOwn.never (.inl rfl) (pigL K (pe_ix (ixT K) (pv 0) pe_int (fun _ _ => rfl))) (pgT K 5 (.inl rfl) (pgs_cons (pg_name (i := 4) sc_lStarts.nd rfl (.inl rfl)) (pgs_cons (pg_name (i := 5) sc_lStarts.nd rfl (.inl rfl)) (pgs_cons (pg_name (i := 6) sc_lStarts.nd rfl (.inl rfl)) (pgs_cons (pg_name (i := 7) sc_lStarts.nd rfl (.inl rfl)) (pgs_cons (pg_name (i := 8) sc_lStarts.nd rfl (.inl rfl)) pgs_nil))))))
      (pss_cons (ps_set (i := 9) sc_lStarts.nd rfl (Or.inl rfl) (pe_op op_fdiv (pv 1) (pv 5)))
      (pss_cons (ps_set (i := 10) sc_lStarts.nd rfl (Or.inl rfl) (pe_op op_sub (pv 1) (pe_op op_mul (pv 9) (pv 5))))
      (pss_one (ps_if (PW.pt (pw_and (pt_cmpR op_gt (pv 9) pe_int (nomark _)) (pw_and (pt_cmpR op_le (pv 10) (pv 8) (nomark _)) (pw_and1 (PW.pt (pw_or (pt_cmpR op_isN (pv 6) pe_non (nomark _)) (pw_or1 (pt_cmpR op_le (pv 9) (pv 6) (nomark _))))))))) (pss_one (ps_if (PW.pt (pw_or (pt_cmpR op_eq (pv 10) pe_int (nomark _)) (pw_or1 (pt_cmpR (op_neD hu64) (pe_call G_lStarts (hr.mono (by omega)) (by rfl) T.m_lStarts T.F_lStarts.kp T.b_lStarts .nil pass0 (pa_cons (pv 0) (pa_cons (pv 10) (pa_cons (pv 2) pa_nil)))) (pe_lst pa_nil) (nomark _))))) (pss_one (ps_set (i := 3) sc_lStarts.nd rfl (Or.inl rfl) (pe_op op_cat (pv 3) (pe_ifExp (PW.pt (pw_and (pt_val (pv 7)) (pw_and1 (pt_cmpR op_eq (pv 9) pe_int (nomark _))))) (pe_lst (pa_cons (pv 4) pa_nil)) (pe_call G_lStarts (hr.mono (by omega)) (by rfl) T.m_lStarts T.F_lStarts.kp T.b_lStarts .nil pass0 (pa_cons (pv 0) (pa_cons (pv 9) (pa_cons (pv 2) pa_nil)))))))) pss_nil)) pss_nil)))))
      (pss_one (ps_dput (huH (roomH_of hr)) (pv 2) (pv 1) (pv 3) rfl)))) pss_nil)
      (pss_one (ps_ret (pe_dget (huH (roomH_of hr)) (pv 2) (pv 1) (fun _ _ => rfl))))), ?_⟩
    obtain ⟨m, rfl, rfl⟩ : ∃ m, lv = m + 1 ∧ sp0 = sp_lStarts m := by
      rcases hsp with z | z
      · subst z
        have : (2 : Nat) ^ 0 = 1 := rfl
        omega
      · exact z
    have pw : 2 ^ (m + 1) = 2 * 2 ^ m := by rw [Nat.pow_succ, Nat.mul_comm]
    obtain ⟨kvs0, hk0, _⟩ := ks.ex
    have pers : ∀ {H' : Hp} {b : Addr} {o : HO}, Kp [kd] H H' → H b = some o → (∀ kvs, o ≠ .dK kvs) → H' b = some o := by
      intro H' b o k e ne
      refine k _ _ e ?_
      rw [List.mem_singleton]
      intro y
      rw [y, hk0] at e
      exact ne _ (Option.some.inj e).symm
    have tt' : ∀ {H' : Hp}, Kp [kd] H H' → H' t = some (.tup [.ref la, .ref lb]) := fun k => pers k ht (fun _ e => nomatch e)
    refine seq_gen (fun σ' H' => ∃ (l : Addr) (ws : List Str) (v3 v4 v5 v6 v7 v8 v9 v10 : Option V), σ' = [some (.ref t), some (.int n), some (.ref kd), v3, v4, v5, v6, v7, v8, v9, v10] ∧ Kp [kd] H H' ∧ KsAt H' kd S ∧ StAt H' l S n ws ∧ ∃ kvs, H' kd = some (.dK kvs) ∧ valV kvs (Sum.inl (n : Int)) = some (.ref l)) (fun R hR => ?_) ?_
    · obtain ⟨kvs, e1, e2, e3⟩ := ks.ex
      refine ⟨_, rfl, _, rfl, kd, valV kvs (Sum.inl (n : Int)), rfl, DGet.k (k := Sum.inl (n : Int)) e1, _, rfl, ?_⟩
      cases hv : valV kvs (Sum.inl (n : Int)) with
      | some v =>
        obtain ⟨n', ws, l, a1, rfl, a3, a4, a5⟩ := e3 _ _ hv
        have : n' = n := by
          injection a1 with a1
          omega
        subst this
        exact iteF (hR _ _ ⟨l, ws, _, _, _, _, _, _, _, _, rfl, .refl _ _, ks, a5, kvs, e1, hv⟩)
      | none =>
        refine iteT ?_
        refine seq_gen (fun σ' H' => ∃ (fl : Addr) (ws : List Str), σ' = [some (.ref t), some (.int n), some (.ref kd), some (.ref fl), none, none, none, none, none, none, none] ∧ Same H H' ∧ H' fl = some (.lst (ws.map V.str)) ∧ ws.length ≤ 5 ∧ ∀ w, w ∈ ws ↔ (w, (n : Int)) ∈ S.simple) (fun R2 hR2 => ?_) ?_
        · refine ⟨_, rfl, t, _, 0, .ref la, rfl, rfl, SqT.of ht, rfl, la, rfl, ⟨_, SqL.of ra.l1⟩, fun D hD => lc_list (K := K) (a := la) (xs := ps.map V.ref)
            (fun i H' => Same H H' ∧ H' D = some (.lst ((((S.simple.take i).filter fun e => decide (e.2 = (n : Int))).map (·.1)).map V.str))) ⟨same_upd _ hD, upd_same⟩ (fun i H' _ g => SqL.of (g.1 _ _ ra.l1)) ?_ ?_⟩
          · rintro i x H' hx ⟨g1, g2⟩
            rw [List.getElem?_map] at hx
            obtain ⟨q0, hq0, rfl⟩ := Option.map_eq_some_iff.mp hx
            have hil : i < S.simple.length := ra.pl ▸ (List.getElem?_eq_some_iff.mp hq0).1
            have hse : S.simple[i]? = some (S.simple[i]) := List.getElem?_eq_getElem hil
            have ho := g1 _ _ (ra.pe i q0 _ hq0 hse)
            refine ⟨q0, _, rfl, SqT.of ho, rfl, _, _, rfl, _, _, rfl, rfl, rfl, _, rfl, _, rfl, rfl, _, rfl, ?_⟩
            by_cases hb : (S.simple[i]).2 = (n : Int)
            · rw [dint_t hb]
              refine iteT ⟨_, rfl, _, g2, ?_, same_add g1 hD, ?_⟩
              · rw [List.length_map, List.length_map]
                have h1 := List.length_filter_le (fun e : Str × Int => decide (e.2 = (n : Int))) (S.simple.take i)
                rw [List.length_take] at h1
                have := ok.ls
                exact small_len (by omega)
              · rw [upd_same, take_snoc hse, List.filter_append, List.map_append, List.map_append]
                simp [hb]
            · rw [dint_f hb]
              refine iteF ⟨g1, ?_⟩
              rw [g2, take_snoc hse, List.filter_append]
              simp [hb]
          · rintro H1 ⟨g1, g2⟩
            rw [List.length_map, ra.pl, List.take_length] at g2
            refine hR2 _ _ ⟨D, _, rfl, g1, g2, ?_, fun w => ?_⟩
            · rw [List.length_map]
              have h1 := List.length_filter_le (fun e : Str × Int => decide (e.2 = (n : Int))) S.simple
              have := ok.ls
              omega
            · rw [List.mem_map]
              constructor
              · rintro ⟨e, he, rfl⟩
                obtain ⟨h1, h2⟩ := List.mem_filter.mp he
                have : e.2 = (n : Int) := of_decide_eq_true h2
                rw [← this]
                exact h1
              · intro h
                exact ⟨(w, n), List.mem_filter.mpr ⟨h, decide_eq_true rfl⟩, rfl⟩
        rintro σ' H1 ⟨fl, ws, rfl, s1, hfl, hlen, hws⟩
        refine seq_gen (fun σ' H' => ∃ (fl : Addr) (ws : List Str) (v4 v5 v6 v7 v8 v9 v10 : Option V), σ' = [some (.ref t), some (.int n), some (.ref kd), some (.ref fl), v4, v5, v6, v7, v8, v9, v10] ∧ Kp [kd] H H' ∧ KsAt H' kd S ∧ StAt H' fl S n ws) (fun R2 hR2 => ?_) ?_
        · have ra1 := ra.same s1
          refine ⟨_, rfl, t, _, 1, .ref lb, rfl, rfl, SqT.of (s1 _ _ ht), rfl, lb, rfl, ⟨_, SqL.of ra1.l2⟩, for_list (K := K) (a := lb) (xs := ms.map V.ref)
            (fun i σ H' => ∃ (fl : Addr) (ws : List Str) (v4 v5 v6 v7 v8 v9 v10 : Option V), σ = [some (.ref t), some (.int n), some (.ref kd), some (.ref fl), v4, v5, v6, v7, v8, v9, v10] ∧ Kp [kd] H H' ∧ KsAt H' kd S ∧ H' fl = some (.lst (ws.map V.str)) ∧
              ws.length ≤ 5 + (if n < 2 then 0 else i * bS (n / 2)) ∧ ∀ w, w ∈ ws ↔ (w, (n : Int)) ∈ S.simple ∨ ∃ r ∈ S.mult.take i, StR S n r w)
            ⟨fl, ws, none, none, none, none, none, none, none, rfl, .of_same s1, ks.same s1, hfl, by split <;> omega, fun w => by rw [hws w]; simp⟩ (fun i σ H' _ ⟨_, _, _, _, _, _, _, _, _, _, k, _⟩ => SqL.of (ra.kp k hk0).l2) ?_ ?_⟩
          · rintro i x σ H2 hx ⟨fl, ws, v4, v5, v6, v7, v8, v9, v10, rfl, k2, ks2, hfl2, hlen2, hws2⟩
            rw [List.getElem?_map] at hx
            obtain ⟨q0, hq0, rfl⟩ := Option.map_eq_some_iff.mp hx
            have hil : i < S.mult.length := ra.ml ▸ (List.getElem?_eq_some_iff.mp hq0).1
            have hse : S.mult[i]? = some (S.mult[i]) := List.getElem?_eq_getElem hil
            obtain ⟨r, hr⟩ : ∃ r, r = S.mult[i] := ⟨_, rfl⟩
            rw [← hr] at hse
            have hrow : r ∈ S.mult := List.mem_of_getElem? hse
            have hv := ok.mv r hrow
            have hrr := ok.mr r hrow
            have ra2 := ra.kp k2 hk0
            have ho := ra2.me i q0 _ hq0 hse
            obtain ⟨g, hg⟩ : ∃ g, g = (n : Int) / r.v := ⟨_, rfl⟩
            obtain ⟨rs, hrs⟩ : ∃ rs, rs = (n : Int) - g * r.v := ⟨_, rfl⟩
            have g0 : 0 ≤ g := hg ▸ Int.ediv_nonneg (by omega) (by omega)
            have gle : g * r.v ≤ n := hg ▸ Int.ediv_mul_le _ (by omega)
            have rlt : rs < r.v := by
              have h1 := Int.emod_lt_of_pos (n : Int) (show 0 < r.v by omega)
              have h2 := Int.emod_add_mul_ediv (n : Int) r.v
              rw [← hg, Int.mul_comm] at h2
              omega
            have noR : (∀ w, ¬ StR S n r w) → ∀ {ws' : List Str} {i' : Nat}, i' = i → (ws'.length ≤ 5 + (if n < 2 then 0 else i' * bS (n / 2)) ∧ ∀ w, w ∈ ws' ↔ (w, (n : Int)) ∈ S.simple ∨ ∃ r ∈ S.mult.take i', StR S n r w) →
                ws'.length ≤ 5 + (if n < 2 then 0 else (i' + 1) * bS (n / 2)) ∧ ∀ w, w ∈ ws' ↔ (w, (n : Int)) ∈ S.simple ∨ ∃ r ∈ S.mult.take (i' + 1), StR S n r w := by
              intro hno ws' i' hi' ⟨h1, h2⟩
              subst hi'
              refine ⟨?_, fun w => ?_⟩
              · have : (i' + 1) * bS (n / 2) = i' * bS (n / 2) + bS (n / 2) := Nat.succ_mul _ _
                split
                · rename_i z
                  rw [if_pos z] at h1
                  exact h1
                · rename_i z
                  rw [if_neg z] at h1
                  omega
              · rw [h2 w, take_snoc hse]
                constructor
                · rintro (z | ⟨r', hr', z⟩)
                  · exact .inl z
                  · exact .inr ⟨r', List.mem_append_left _ hr', z⟩
                · rintro (z | ⟨r', hr', z⟩)
                  · exact .inl z
                  · rcases List.mem_append.mp hr' with y | y
                    · exact .inr ⟨r', y, z⟩
                    · rw [List.mem_singleton.mp y] at z
                      exact absurd z (hno w)
            refine ⟨q0, _, rfl, SqT.of ho, rfl, _, _, rfl, _, _, rfl, _, _, rfl, _, _, rfl, _, _, rfl, rfl, ?_⟩
            dsimp only [gName]
            refine seq_gen (fun σ' H' => σ' = [some (.ref t), some (.int n), some (.ref kd), some (.ref fl), some (.str r.w), some (.int r.v), some (mostV r.most), some (.bl r.uns), some (.int r.rest), some (.int g), v10] ∧ H2 = H') (fun R3 hR3 => ?_) ?_
            · exact ⟨_, rfl, _, rfl, _, _, rfl, rfl, ⟨by omega, by omega⟩, hR3 _ _ ⟨by rw [hg]; rfl, rfl⟩⟩
            rintro σ' H' ⟨rfl, rfl⟩
            refine seq_gen (fun σ' H' => σ' = [some (.ref t), some (.int n), some (.ref kd), some (.ref fl), some (.str r.w), some (.int r.v), some (mostV r.most), some (.bl r.uns), some (.int r.rest), some (.int g), some (.int rs)] ∧ H2 = H') (fun R3 hR3 => ?_) ?_
            · exact ⟨_, rfl, _, rfl, _, rfl, _, _, rfl, rfl, .inr ⟨by omega, by omega⟩, _, _, rfl, rfl, hR3 _ _ ⟨by rw [hrs]; rfl, rfl⟩⟩
            rintro σ' H' ⟨rfl, rfl⟩
            refine ifS_gen (fun b H' => H2 = H' ∧ (b = true ↔ (0 < g ∧ rs ≤ r.rest ∧ ∀ c, r.most = some c → g ≤ c))) (fun R3 hR3 => ?_) ?_ ?_
            · refine ⟨_, rfl, _, _, rfl, rfl, _, rfl, ?_⟩
              by_cases c1 : 0 < g
              · rw [decide_eq_true c1]
                refine iteT ⟨_, rfl, _, rfl, _, _, rfl, rfl, _, rfl, ?_⟩
                by_cases c2 : rs ≤ r.rest
                · rw [decide_eq_true c2]
                  refine iteT ⟨_, rfl, rfl, _, rfl, ?_⟩
                  cases hm : r.most with
                  | none => exact iteT (hR3 _ _ ⟨rfl, fun _ => ⟨c1, c2, (fun c e => by rw [hm] at e; cases e)⟩, fun _ => rfl⟩)
                  | some c =>
                    refine iteF ⟨_, rfl, _, rfl, _, _, rfl, rfl, _, rfl, ?_⟩
                    refine hR3 _ _ ⟨rfl, ?_⟩
                    rw [decide_eq_true_iff]
                    constructor
                    · intro h
                      exact ⟨c1, c2, fun c' e => by rw [hm] at e; cases e; exact h⟩
                    · intro h
                      exact h.2.2 c hm
                · rw [decide_eq_false c2]
                  exact iteF (hR3 _ _ ⟨rfl, (fun e => nomatch e), fun h => absurd h.2.1 c2⟩)
              · rw [decide_eq_false c1]
                exact iteF (hR3 _ _ ⟨rfl, (fun e => nomatch e), fun h => absurd h.1 c1⟩)
            · rintro H' ⟨rfl, hb⟩
              obtain ⟨c1, c2, c3⟩ := hb.mp rfl
              have g2v : g * 2 ≤ g * r.v := Int.mul_le_mul_of_nonneg_left hv.1 g0
              have gvv : 1 * r.v ≤ g * r.v := Int.mul_le_mul_of_nonneg_right (by omega) (by omega)
              obtain ⟨gN, rfl⟩ : ∃ gN : Nat, g = (gN : Int) := ⟨g.toNat, by omega⟩
              obtain ⟨rN, rfl⟩ : ∃ rN : Nat, rs = (rN : Int) := ⟨rs.toNat, by omega⟩
              have n2' : 2 ≤ n := by omega
              have gN2 : 2 * gN ≤ n := by omega
              refine ifS_gen (fun b H' => Kp [kd] H2 H' ∧ KsAt H' kd S ∧ (b = true ↔ ((rN : Int) = 0 ∨ ∃ p, Der S rN p))) (fun R3 hR3 => ?_) ?_ ?_
              · refine ⟨_, rfl, rfl, _, rfl, ?_⟩
                by_cases h0 : (rN : Int) = 0
                · rw [dint_t h0]
                  exact iteT (hR3 _ _ ⟨.refl _ _, ks2, fun _ => .inl h0, fun _ => rfl⟩)
                · rw [dint_f h0]
                  refine iteF ⟨_, rfl, _, rfl, _, rfl, t, la, lb, kd, ps, ms, S, rN, rfl, tt' k2, ra2, ok, wo, ks2, by omega, by omega, by omega, fun l ws' H3 k3 ks3 st3 => ⟨z0, fun e he => ne_nil ((same_upd _ he) _ _ st3.1) upd_same (fun w hw => ?_) ⟨_, rfl, hR3 _ _ ⟨k3.trans (.of_same (same_upd _ he)), ks3.same (same_upd _ he), ?_⟩⟩⟩⟩
                  · obtain ⟨q', d⟩ := (st3.2.2 w).mp hw
                    exact wo w (first_in d w q' rfl)
                  · cases ws' with
                    | nil =>
                      refine ⟨(fun e => nomatch e), fun h => ?_⟩
                      rcases h with h | ⟨p', d⟩
                      · omega
                      · obtain ⟨x, p'', rfl⟩ := List.exists_cons_of_ne_nil (d.pos ok).2
                        exact nomatch (st3.2.2 x).mpr ⟨p'', d⟩
                    | cons x xs =>
                      refine ⟨fun _ => .inr ?_, fun _ => rfl⟩
                      obtain ⟨q', d⟩ := (st3.2.2 x).mp List.mem_cons_self
                      exact ⟨_, d⟩
              · rintro H3 ⟨k3, ks3, hb3⟩
                have c4 := hb3.mp rfl
                have k23 := k2.trans k3
                have ra3 := ra.kp k23 hk0
                have hfl3 : H3 fl = some (.lst (ws.map V.str)) := by
                  refine k3 _ _ hfl2 ?_
                  rw [List.mem_singleton]
                  intro z
                  obtain ⟨kv2, hkv2, _⟩ := ks2.ex
                  rw [z, hkv2] at hfl2
                  cases hfl2
                have stR : ∀ w, StR S n r w ↔ (if r.uns = true ∧ (gN : Int) = 1 then w = r.w else Starts S gN w) := fun w => by
                  unfold StR
                  rw [← hg, ← hrs]
                  exact ⟨fun z => z.2.2.2.2, fun z => ⟨c1, c2, c3, c4, z⟩⟩
                have fin_ : ∀ {H4 : Hp} {b : Addr} {ws' : List Str}, Kp [kd] H H4 → KsAt H4 kd S → H4 fl = some (.lst (ws.map V.str)) → H4 b = some (.lst (ws'.map V.str)) → ws'.length ≤ bS (n / 2) → (∀ w, w ∈ ws' ↔ StR S n r w) →
                    ∃ l b' xs zs, V.ref fl = .ref l ∧ V.ref b = .ref b' ∧ H4 l = some (.lst xs) ∧ H4 b' = some (.lst zs) ∧ xs.length + zs.length ≤ sizeLine ∧ ∀ p, H4 p = none → ∃ (fl' : Addr) (ws'' : List Str) (v4 v5 v6 v7 v8 v9 v10 : Option V), [some (.ref t), some (.int n), some (.ref kd), some (.ref p), some (.str r.w), some (.int r.v), some (mostV r.most), some (.bl r.uns), some (.int r.rest), some (.int gN), some (.int rN)] = [some (.ref t), some (.int n), some (.ref kd), some (.ref fl'), v4, v5, v6, v7, v8, v9, v10] ∧ Kp [kd] H (upd H4 p (.lst (xs ++ zs))) ∧ KsAt (upd H4 p (.lst (xs ++ zs))) kd S ∧ upd H4 p (.lst (xs ++ zs)) fl' = some (.lst (ws''.map V.str)) ∧
                      ws''.length ≤ 5 + (if n < 2 then 0 else (i + 1) * bS (n / 2)) ∧ ∀ w, w ∈ ws'' ↔ (w, (n : Int)) ∈ S.simple ∨ ∃ r ∈ S.mult.take (i + 1), StR S n r w := by
                  intro H4 b ws' k4 ks4 h1 h2 h3 h4
                  rw [if_neg (by omega)] at hlen2
                  have hb1 := (bS_pos (n / 2)).2
                  have hi3 : i ≤ 2 := by
                    have := ok.lm
                    omega
                  have hib : i * bS (n / 2) ≤ 2 * bS (n / 2) := Nat.mul_le_mul_right _ hi3
                  refine ⟨fl, b, _, _, rfl, rfl, h1, h2, ?_, fun p hp => ⟨p, ws ++ ws', _, _, _, _, _, _, _, rfl, k4.trans (.of_same (same_upd _ hp)), ks4.same (same_upd _ hp), ?_, ?_, fun w => ?_⟩⟩
                  · rw [List.length_map, List.length_map]
                    exact Nat.le_of_lt (small_len (by omega))
                  · rw [upd_same, List.map_append]
                  · rw [if_neg (by omega), List.length_append, Nat.succ_mul]
                    omega
                  · rw [List.mem_append, hws2 w, h4 w, take_snoc hse]
                    constructor
                    · rintro ((z | ⟨r', hr', z⟩) | z)
                      · exact .inl z
                      · exact .inr ⟨r', List.mem_append_left _ hr', z⟩
                      · exact .inr ⟨r, by simp, z⟩
                    · rintro (z | ⟨r', hr', z⟩)
                      · exact .inl (.inl z)
                      · rcases List.mem_append.mp hr' with y | y
                        · exact .inl (.inr ⟨r', y, z⟩)
                        · rw [List.mem_singleton.mp y] at z
                          exact .inr z
                have one_ : r.uns = true ∧ (gN : Int) = 1 → ∀ b, H3 b = none → _ := fun hu b hb => fin_ (H4 := upd H3 b (.lst [.str r.w])) (b := b) (ws' := [r.w]) (k23.trans (.of_same (same_upd _ hb))) (ks3.same (same_upd _ hb)) ((same_upd _ hb) _ _ hfl3) upd_same (by have := (bS_pos (n / 2)).1; show 1 ≤ _; omega) (fun w => by
                  rw [stR w, if_pos hu, List.mem_singleton])
                have two_ : ¬ (r.uns = true ∧ (gN : Int) = 1) → ∀ l ws' H4, Kp [kd] H3 H4 → KsAt H4 kd S → StAt H4 l S gN ws' → _ := fun hu l ws' H4 k4 ks4 st4 => fin_ (H4 := H4) (b := l) (ws' := ws') (k23.trans k4) ks4 (k4 _ _ hfl3 (by
                    rw [List.mem_singleton]
                    intro z
                    obtain ⟨kv2, hkv2, _⟩ := ks3.ex
                    rw [z, hkv2] at hfl3
                    cases hfl3)) st4.1 (by
                    have h1 := st4.2.1
                    have mono : bS gN ≤ bS (n / 2) := bS_mono (by omega) (by omega)
                    omega) (fun w => by
                  rw [stR w, if_neg hu, st4.2.2 w])
                refine ⟨_, rfl, _, rfl, r.uns, rfl, ?_⟩
                by_cases hu : r.uns = true
                · dsimp only
                  rw [if_pos hu]
                  refine ⟨_, rfl, rfl, _, rfl, ?_⟩
                  by_cases hg1 : (gN : Int) = 1
                  · rw [dint_t hg1]
                    exact iteT ⟨_, rfl, z1, fun b hb => one_ ⟨hu, hg1⟩ b hb⟩
                  · rw [dint_f hg1]
                    exact iteF ⟨_, rfl, _, rfl, _, rfl, t, la, lb, kd, ps, ms, S, gN, rfl, tt' k23, ra3, ok, wo, ks3, by omega, by omega, by omega, two_ fun z => hg1 z.2⟩
                · dsimp only
                  rw [if_neg hu]
                  exact iteF ⟨_, rfl, _, rfl, _, rfl, t, la, lb, kd, ps, ms, S, gN, rfl, tt' k23, ra3, ok, wo, ks3, by omega, by omega, by omega, two_ fun z => hu z.1⟩
              · rintro H3 ⟨k3, ks3, hb3⟩
                have hno : ∀ w, ¬ StR S n r w := fun w z => by
                  have := z.2.2.2.1
                  rw [← hg, ← hrs] at this
                  exact nomatch hb3.mpr this
                have nr := noR hno rfl ⟨hlen2, hws2⟩
                refine ⟨fl, ws, _, _, _, _, _, _, _, rfl, k2.trans k3, ks3, ?_, nr.1, nr.2⟩
                refine k3 _ _ hfl2 ?_
                rw [List.mem_singleton]
                intro z
                obtain ⟨kv2, hkv2, _⟩ := ks2.ex
                rw [z, hkv2] at hfl2
                cases hfl2
            · rintro H' ⟨rfl, hb⟩
              have hno : ∀ w, ¬ StR S n r w := fun w z => by
                have h1 := z.1
                have h2 := z.2.1
                have h3 := z.2.2.1
                rw [← hg] at h1 h2 h3
                rw [← hrs] at h2
                exact nomatch hb.mpr ⟨h1, h2, h3⟩
              have nr := noR hno rfl ⟨hlen2, hws2⟩
              exact ⟨fl, ws, _, _, _, _, _, _, _, rfl, k2, ks2, hfl2, nr.1, nr.2⟩
          · rintro σ H2 ⟨fl, ws, v4, v5, v6, v7, v8, v9, v10, rfl, k2, ks2, hfl2, hlen2, hws2⟩
            rw [List.length_map, ra.ml] at hlen2 hws2
            rw [List.take_length] at hws2
            refine hR2 _ _ ⟨fl, ws, _, _, _, _, _, _, _, rfl, k2, ks2, hfl2, ?_, fun w => ?_⟩
            · by_cases hn2 : n < 2
              · rw [if_pos hn2] at hlen2
                have := (bS_pos n).1
                omega
              · rw [if_neg hn2] at hlen2
                have h1 := bS_half (n := n) (g := n / 2) (by omega) n3 (by omega)
                have h2 : S.mult.length * bS (n / 2) ≤ 3 * bS (n / 2) := Nat.mul_le_mul_right _ ok.lm
                omega
            · rw [hws2 w, starts_iff ok w]
        rintro σ' H2 ⟨fl, ws, v4, v5, v6, v7, v8, v9, v10, rfl, k2, ks2, st2⟩
        obtain ⟨kvs2, hk2, _⟩ := ks2.ex
        have pu := ks2.put hk2 st2 n1 n3
        exact ⟨_, rfl, _, rfl, _, rfl, kd, _, rfl, DPut.k (k := Sum.inl (n : Int)) hk2 (ks2.len kvs2 hk2), hR _ _ ⟨fl, ws, _, _, _, _, _, _, _, _, rfl, k2.trans (fld_kp _), pu.1, pu.2, _, upd_same, by rw [valV_put, if_pos rfl]⟩⟩
    · rintro σ' H' ⟨l, ws, v3, v4, v5, v6, v7, v8, v9, v10, rfl, k1, ks1, st1, kvs, hk, hv⟩
      refine ⟨_, rfl, _, rfl, kd, .ref l, rfl, ?_, q l ws H' k1 ks1 st1⟩
      have := DGet.k (k := Sum.inl (n : Int)) hk
      rw [hv] at this
      exact this
theorem g_lStarts (T : Txt K mg a) : ∀ lv : Nat, FnOk P w K mg base CX0 (lv + 2) a.f_lStarts a.d_lStarts ["_law_rows_here", "_law_number", "_law_known"] (sp_lStarts lv)
  | 0 => g_lStarts_step T (g_no T.F_lStarts sc_lStarts).ok (.inl rfl)
  | lv + 1 => g_lStarts_step T (g_lStarts T lv) (.inr ⟨lv, rfl, rfl⟩)
end
end K30
set_option Elab.async false
set_option linter.all false
set_option maxRecDepth 100000
/-! K30Law: the plain law. -/
namespace K30
open PySem PySem.Spec PyProof.Rows L2 L2H
theorem der_words {S : SyS} {n : Int} {p : List Str} (d : Der S n p) : ∀ w ∈ p, w ∈ allWords S := by
  induction d with
  | simple h =>
    intro w hw
    rw [List.mem_singleton.mp hw]
    exact List.mem_append_left _ (List.mem_map.mpr ⟨_, h, rfl⟩)
  | bare h _ =>
    intro w hw
    rw [List.mem_singleton.mp hw]
    exact List.mem_append_right _ (List.mem_map.mpr ⟨_, h, rfl⟩)
  | bareR h _ _ _ ih =>
    intro w hw
    rcases List.mem_cons.mp hw with rfl | z
    · exact List.mem_append_right _ (List.mem_map.mpr ⟨_, h, rfl⟩)
    · exact ih w z
  | mul h _ _ ih =>
    intro w hw
    rcases List.mem_append.mp hw with z | z
    · exact ih w z
    · rw [List.mem_singleton.mp z]
      exact List.mem_append_right _ (List.mem_map.mpr ⟨_, h, rfl⟩)
  | mulR h _ _ _ _ ih ih2 =>
    intro w hw
    rcases List.mem_append.mp hw with z | z
    · exact ih w z
    · rcases List.mem_cons.mp z with rfl | z
      · exact List.mem_append_right _ (List.mem_map.mpr ⟨_, h, rfl⟩)
      · exact ih2 w z
/-- w may be pushed -/
def Push (S : SyS) (ws : List Str) (w : Str) : Prop := w ∈ allWords S ∧ ∃ n, Der S n (ws ++ [w])
theorem poss_split {S : SyS} (ok : S.Ok) {ws : List Str} {v : Int} : Poss S ws v ↔ Der S v ws ∨ ∃ w, Push S ws w ∧ Poss S (ws ++ [w]) v := by
  constructor
  · rintro ⟨q, d⟩
    cases q with
    | nil => exact .inl (by rw [List.append_nil] at d; exact d)
    | cons w q =>
      have e : ws ++ w :: q = (ws ++ [w]) ++ q := by simp
      rw [e] at d
      obtain ⟨m, _, dm⟩ := d.prefix_ ok (ws ++ [w]) q rfl (by simp)
      exact .inr ⟨w, ⟨der_words dm w (by simp), m, dm⟩, q, d⟩
  · rintro (d | ⟨w, _, q, d⟩)
    · exact ⟨[], by rw [List.append_nil]; exact d⟩
    · exact ⟨w :: q, by rw [List.append_assoc] at d; exact d⟩
theorem der_two {S : SyS} (ok : S.Ok) {n : Int} {p : List Str} (d : Der S n p) {r : Rw} (hr : r ∈ S.mult) (hw : r.w ∈ p) : 2 ≤ n := by
  rcases d.inv with ⟨w, h, rfl⟩ | ⟨r', g, t, pc, pr, hr', hc, ht, rfl, rfl⟩
  · rw [List.mem_singleton] at hw
    exact absurd hw.symm ((List.nodup_append.mp ok.nd).2.2 w (List.mem_map.mpr ⟨_, h, rfl⟩) r.w (List.mem_map.mpr ⟨r, hr, rfl⟩))
  · have h1 := (gv_ge hc.pos (ok.mv r' hr').1).1
    have h2 := (ht.bd ok hr').1
    have h3 := (ok.mv r' hr').1
    omega
theorem sp_low {r : Rw} {n : Int} (h2 : 2 ≤ n) (hm : r.most = none) : Spoken r n := by
  refine ⟨?_, fun c e => by rw [hm] at e; cases e⟩
  split <;> omega
/-- a bounded row's numbers are not beyond -/
theorem bounded_le {S : SyS} (ok : S.Ok) {ws : List Str} {L : Int} (hL : LimIs S ws L) {r : Rw} (hr : r ∈ S.mult) {c g t : Int} {pc : List Str} (hm : r.most = some c) (hc : CountD S r g pc) (ht : 0 ≤ t ∧ t ≤ r.rest) : g * r.v + t ≤ L := by
  obtain ⟨m, b, hm'⟩ := hL.bm
  have h1 := b.r r hr c hm
  have hv := ok.mv r hr
  have hg : g ≤ c := by
    rcases hc with ⟨rfl, _⟩ | ⟨hs, _⟩
    · exact (ok.mc r hr c hm).1
    · exact hs.2 c hm
  have h2 : g * r.v ≤ c * r.v := Int.mul_le_mul_of_nonneg_right hg (by omega)
  omega
/-- a spoken possible number beyond: one within -/
theorem endless_in {S : SyS} (ok : S.Ok) {ws : List Str} {L : Int} (hL : LimIs S ws L) {row : Rw} (hrow : row ∈ S.mult) (hm : row.most = none) : ∀ (k : Nat) (v : Int), v.toNat ≤ k → Poss S ws v → Spoken row v → ∃ v', v' ≤ L ∧ Poss S ws v' ∧ Spoken row v' := by
  intro k
  induction k with
  | zero =>
    intro v hk hp _
    have := hp.pos ok
    omega
  | succ k ih =>
    intro v hk hp hs
    by_cases hle : v ≤ L
    · exact ⟨v, hle, hp, hs⟩
    · obtain ⟨q, d⟩ := hp
      have un : ∀ r ∈ S.mult, r.most = none → r = row := fun r h1 h2 => by
        obtain ⟨i, hi, e1⟩ := List.mem_iff_getElem.mp h1
        obtain ⟨j, hj, e2⟩ := List.mem_iff_getElem.mp hrow
        have := ok.one i j r row (by rw [List.getElem?_eq_getElem hi, e1]) (by rw [List.getElem?_eq_getElem hj, e2]) h2 hm
        subst this
        rw [← e1, ← e2]
      obtain ⟨mb, b, hmb⟩ := hL.bm
      rcases d.inv with ⟨w, h, e⟩ | ⟨r, g, t, pc, pr, hr, hc, ht, rfl, e⟩
      · have := b.s _ h
        omega
      · cases hmr : r.most with
        | some c =>
          have := bounded_le ok hL hr hmr hc (ht.bd ok hr)
          omega
        | none =>
          have er := un r hr hmr
          subst er
          have hv := ok.mv r hr
          have hb := ht.bd ok hr
          have g1 := hc.pos
          have gv := gv_ge g1 hv.1
          rcases List.append_eq_append_iff.mp e with ⟨c, e1, e2⟩ | ⟨c, e1, e2⟩
          · -- the count begins with ws
            rcases hc with ⟨rfl, hu, rfl⟩ | ⟨hs', d'⟩
            · have hw0 : ws = [] := (List.append_eq_nil_iff.mp e1.symm).1
              refine ⟨r.v, hL.en r hr hmr, ?_, sp_low hv.1 hm⟩
              rw [hw0]
              exact ⟨[r.w], .bare hr hu⟩
            · refine ih g (by omega) ⟨c, e1 ▸ d'⟩ hs'
          · cases c with
            | nil =>
              rw [List.append_nil] at e1
              subst e1
              rcases hc with ⟨rfl, hu, rfl⟩ | ⟨hs', d'⟩
              · exact ⟨r.v, hL.en r hr hmr, ⟨[r.w], .bare hr hu⟩, sp_low hv.1 hm⟩
              · exact ih g (by omega) ⟨[], by rw [List.append_nil]; exact d'⟩ hs'
            | cons x c =>
              have ex : r.w = x := (List.cons.inj e2).1
              subst ex
              have hne : ws ≠ [] := by rw [e1]; simp
              obtain ⟨m, _, dm⟩ := d.prefix_ ok ws q rfl hne
              refine ⟨m, hL.ms m dm, ⟨[], by rw [List.append_nil]; exact dm⟩, sp_low (der_two ok dm hr (by rw [e1]; simp)) hm⟩
/-- where a spoken number is possible, the greatest is None -/
theorem great_spoken {S : SyS} (ok : S.Ok) {ws : List Str} {g : Option Int} (hg : GreatIs S ws g) {row : Rw} (hrow : row ∈ S.mult) (hm : row.most = none) {v : Int} (hp : Poss S ws v) (hs : Spoken row v) : g = none := by
  obtain ⟨L, f, hL, hf, h1, h2⟩ := hg
  obtain ⟨v', hv, hp', hs'⟩ := endless_in ok hL hrow hm v.toNat v (Nat.le_refl _) hp hs
  refine h1 ?_
  rcases hf with ⟨rfl, _⟩ | ⟨f1, f2, f3, f4⟩
  · exact .inl rfl
  · have := f4 v' hv hp'
    exact .inr ⟨row, hrow, hm, Int.le_trans hs'.1 this, fun c e => by rw [hm] at e; cases e⟩
/-- the greatest is not spoken ahead of the endless one -/
theorem great_not {S : SyS} {ws : List Str} {x : Int} (hg : GreatIs S ws (some x)) {row : Rw} (hrow : row ∈ S.mult) (hm : row.most = none) : ¬ Spoken row x := fun hs => by
  obtain ⟨L, f, hL, hf, h1, h2⟩ := hg
  by_cases z : f = 0 ∨ EndSpoken S f
  · have := h1 z
    cases this
  · have := h2 z
    cases this
    exact z (.inr ⟨row, hrow, hm, hs⟩)
/-- no greatest, none spoken up to 59: the last sum is spoken -/
theorem great_none {S : SyS} (ok : S.Ok) {ws : List Str} (hg : GreatIs S ws none) {row : Rw} (hrow : row ∈ S.mult) (hm : row.most = none) (hno : ∀ v, 1 ≤ v → v < 60 → Poss S ws v → ¬ Spoken row v) {M : Int} (hM : Der S M ws) (hmax : ∀ n, Der S n ws → n ≤ M) : Spoken row M := by
  by_cases h2 : 2 ≤ M
  · exact sp_low h2 hm
  · have M1 := (hM.pos ok).1
    obtain ⟨L, f, hL, hf, h1, h3⟩ := hg
    have hbig := hL.bm
    have hML := hL.ms M hM
    have pM : Poss S ws M := ⟨[], by rw [List.append_nil]; exact hM⟩
    have z : f = 0 ∨ EndSpoken S f := by
      by_cases z : f = 0 ∨ EndSpoken S f
      · exact z
      · have := h3 z
        cases this
    rcases hf with ⟨rfl, k⟩ | ⟨f1, f2, f3, f4⟩
    · exact absurd pM (k M M1 hML)
    · rcases z with z | ⟨r, hr, hmr, hs⟩
      · omega
      · have un : r = row := by
          obtain ⟨i, hi, e1⟩ := List.mem_iff_getElem.mp hr
          obtain ⟨j, hj, e2⟩ := List.mem_iff_getElem.mp hrow
          have := ok.one i j r row (by rw [List.getElem?_eq_getElem hi, e1]) (by rw [List.getElem?_eq_getElem hj, e2]) hmr hm
          subst this
          rw [← e1, ← e2]
        subst un
        have hLs : L < 60 := by
          rcases hL.at_ with b | d | ⟨r', h5, _, rfl⟩
          · have := b.hi
            omega
          · have := hmax L d
            omega
          · have := ok.mv r' h5
            omega
        exact absurd hs (hno f f1 (by omega) f3)
/-- without an endless one there is a greatest, where there is a least -/
theorem great_some {S : SyS} (ok : S.Ok) {ws : List Str} {l g : Option Int} (hg : GreatIs S ws g) (hl : LeastIs S ws l) (hno : ∀ r ∈ S.mult, r.most ≠ none) (hne : l ≠ none) : g ≠ none := by
  obtain ⟨L, f, hL, hf, h1, h2⟩ := hg
  obtain ⟨m, b, hm⟩ := hL.bm
  have ex : ∃ v, v ≤ L ∧ Poss S ws v := by
    cases l with
    | none => exact absurd rfl hne
    | some v =>
      by_cases e : ws = []
      · subst e
        rcases (hl.some_ rfl v rfl).1 with ⟨w, hw⟩ | ⟨r, hr, hu, rfl⟩
        · have := b.s _ hw
          exact ⟨v, by omega, [w], .simple hw⟩
        · cases hc : r.most with
          | none => exact absurd hc (hno r hr)
          | some c =>
            have := bounded_le ok hL hr (g := 1) (t := 0) (pc := []) hc (.inl ⟨rfl, hu, rfl⟩) ⟨Int.le_refl _, (ok.mr r hr).1⟩
            exact ⟨r.v, by omega, [r.w], .bare hr hu⟩
      · obtain ⟨x, e1, d, _⟩ := hl.cons e
        cases e1
        exact ⟨v, hL.ms v d, [], by rw [List.append_nil]; exact d⟩
  obtain ⟨v, hv, hp⟩ := ex
  have hz : ¬ (f = 0 ∨ EndSpoken S f) := by
    rintro (rfl | ⟨r, hr, hmr, _⟩)
    · rcases hf with ⟨_, k⟩ | ⟨k, _⟩
      · exact k v (hp.pos ok) hv hp
      · omega
    · exact hno r hr hmr
  rw [h2 hz]
  exact fun e => nomatch e
end K30
set_option Elab.async false
set_option linter.all false
set_option maxRecDepth 100000
set_option maxHeartbeats 2000000
/-! K30Q: a method's call that may raise; the suite of an except. -/
namespace K30
open PySem PySem.Spec PyProof.Rows L2 L2H HotX
section
variable {X : Cx} {CX : CXT} {k : Nat} {f C : Addr} {fd : FuncData} {ps : List Str} {sp : Sp} {E : L2.St → XK} {m : Str} {pos apos : Pos} {e o : Expr} {es : List Expr} {ta : TE} {t : TA}
/-- o.m(e, ..), what it lets out told by the slots -/
def tMethX (C : Addr) (m : Str) (sp : Sp) (E : L2.St → XK) (ta : TE) (t : TA) : TE := fun σ H Q => ta σ H fun x H1 => ∃ a dx fs, x = .ref a ∧ H1 a = some (.ins C dx fs) ∧ fs.lookup m = none ∧ t σ H1 fun vs H2 => sp (x :: vs) H2 Q (E σ)
theorem pe_methX {pl : Sem Bool} (he : PE X o ta) (c : Cls X.K C) (hm : Meth X.K C m f) (F : FnOk X.prog X.w X.K X.mg X.base CX k f fd ps sp) (hr : Room k X.A) (hb : Binds X.K fd ps []) (hx : ∀ σ, PassesAt CX X σ (E σ)) (ha : PA X (e :: es) t)
    (hst : starEach (e :: es) X.env = (false, eval e X.env) :: starEach es X.env := by rfl) (hpl : (backTo pos (starEach es X.env)).any (·.1) = false := by rfl)
    (ht : eval (.Call (.Attribute o m apos) (e :: es) [] pos) X.env = (do
      let ov ← eval o X.env
      standAt apos.atName
      let (f, first) ← holding [ov] (getMethod ov m pl)
      callWith pos f first (backTo pos (starEach (e :: es) X.env)) (backToKw pos (keywordEach [] X.env))) := by rfl) :
    PE X (.Call (.Attribute o m apos) (e :: es) [] pos) (tMethX C m sp E ta t) := by
  refine ⟨fun pins s σ H Q I h => PySem.W.methodCall_KW (pl := pl) (thn (he.run pins s σ H _ I h) fun u s1 h1 => ?_) ht⟩
  obtain ⟨x, H1, I1, rx, a, dx, fs, rfl, ea, l, z⟩ := h1
  obtain rfl : u = Value.ref a := rx
  refine getmeth_ok I1 ea c hm l (PySem.W.callWith_K (first := [.ref a]) (h₀ := X.base) I.ok.mod.kin hm.kp (thn (ha.run pos pins s1 σ H1 _ I1 z) fun us s2 h2 => ?_) hst hpl)
  obtain ⟨vs, H2, I2, r, z2⟩ := h2
  exact ⟨I2.kIn, run_fnS (us := .ref a :: us) (vs := .ref a :: vs) F hr hb (hx σ) I2 (.cons rfl r) z2⟩
/-- nothing is let out -/
theorem takes_no : L2N.Takes X (fun _ _ _ _ => False) := fun u s' h => by
  obtain ⟨_, _, _, _, _, _, _, _, _, _, _, _, _, _, _, _, z⟩ := h
  exact z.elim
theorem pass_no : ∀ σ : L2.St, PassesAt (L2N.CX X.prog X.w) X σ ((fun _ => E0) σ) := fun σ pins H s e s' I c => by
  obtain ⟨_, _, _, _, _, _, _, _, _, _, _, _, z⟩ := c
  exact z.elim
end
theorem hot_suite {X : Cx} {a : Addr} {oe : Obj} {cls : Value} {d : Option Addr} {pn : List (Addr × Obj)} (z : L2N.Zn cls d oe) (v : ∃ vs, oe.data = .fields vs) : HC (X.suite a ((a, oe) :: pn)) := by
  obtain ⟨vs, e⟩ := v
  exact .inr ⟨(a, oe), ⟨rfl, vs, e, z.2.2 vs e⟩, List.mem_cons_self⟩
end K30
namespace K30
open L2 L2H
theorem room_mark {k : Nat} {A : PySem.Around} (r : Room k A) (h : Option PySem.Value) : RoomH k (A.mark h) := ⟨r.dp, r.un⟩
end K30
set_option Elab.async false
set_option linter.all false
set_option maxRecDepth 100000
set_option maxHeartbeats 4000000
/-! K30T: every word tried. -/
namespace K30
open PySem PySem.Spec PyProof.Rows L2 L2H
open StX (pa_star)
open C8 (pe_gc)
def sp_lTried (a : Ad) : Sp := fun vs H Q _ => ∃ (r : RA) (S : SyS) (ws : List Str) (nl : Addr) (ns : List Int), vs = [.ref r.p, .ref r.s.p, .ref nl] ∧ RdAt a H r S ws (Full ws) ∧ S.Ok ∧ ws.length ≤ 5 ∧ (ws ≠ [] → ∃ n, Der S n ws) ∧ H nl = some (.lst (ns.map V.int)) ∧ nl ≠ r.la ∧ ns.length ≤ 1000 ∧ (∀ v ∈ ns, v ≤ 1500000) ∧ (∀ b ∈ r.av, H b ≠ none) ∧
  ∀ t fd wl (wds : List Str) H', Kp [r.la, r.va] H H' → RdAt a H' r S ws (Full ws) → H' t = some (.tup [.ref fd, .ref wl]) → FdAt H' fd (fun v => v ∈ ns ∧ ∃ w, Push S ws w ∧ Poss S (ws ++ [w]) v) → H' wl = some (.lst (wds.map V.str)) → (∀ w, w ∈ wds ↔ Push S ws w) → wds.length ≤ 8 → Q (.ref t) H'
theorem dpAll_ints {K : PySem.W.Frag} {H : Hp} : ∀ ws : List Int, DpAll K H (ws.map V.int) (ws.map PyData.int)
  | [] => .nil
  | w :: ws => .cons (.int w) (dpAll_ints ws)
theorem canLay_ints : ∀ ws : List Int, PyData.canLayAll0 (ws.map PyData.int) = true
  | [] => rfl
  | w :: ws => by
    show (true && PyData.canLayAll0 (ws.map PyData.int)) = true
    rw [canLay_ints ws, Bool.and_true]
theorem depth_ints : ∀ ws : List Int, PyData.depthAll (ws.map PyData.int) ≤ 1
  | [] => by decide
  | w :: ws => by
    have ih := depth_ints ws
    show max (PyData.depth (.int w)) (PyData.depthAll (ws.map PyData.int)) ≤ 1
    have : PyData.depth (.int w) ≤ 1 := by first | exact Nat.le_refl 1 | exact Nat.zero_le 1
    omega
theorem shaped_ints (ws : List Int) : SeqAt.shaped (.tuple (ws.map PyData.int)) = true := by
  unfold SeqAt.shaped
  rw [Bool.and_eq_true]
  refine ⟨canLay_ints ws, decide_eq_true ?_⟩
  have := depth_ints ws
  show PyData.depthAll (ws.map PyData.int) + 1 ≤ 64
  omega
theorem eq_nilT {K : PySem.W.Frag} {H : Hp} {l e : Addr} {ws : List Int} {Q : VK} (hl : H l = some (.tup (ws.map V.int))) (he : H e = some (.tup [])) (q : Q (.bl ws.isEmpty) H) : rEqD K (.ref l) (.ref e) H Q := by
  refine ⟨.tuple (ws.map PyData.int), .tuple [], .tup (SqT.of hl) (dpAll_ints ws), .tup (SqT.of he) .nil, shaped_ints ws, shaped_ints [], ?_⟩
  have : PyData.eqv (.tuple (ws.map PyData.int)) (.tuple []) = ws.isEmpty := by
    cases ws <;> rfl
  rw [this]
  exact q
theorem mostV_atom (o : Option Int) : mostV o = .non ∨ (∃ b, mostV o = .bl b) ∨ (∃ i, mostV o = .int i) ∨ ∃ s, mostV o = .str s := by
  cases o with
  | none => exact .inl rfl
  | some c => exact .inr (.inr (.inl ⟨c, rfl⟩))
/-- bounds and words, told twice -/
theorem before_same {H : Hp} {S : SyS} (ok : S.Ok) {ws : List Str} (hw : ws.length ≤ 6) {p1 p2 pb pm q1 q2 qb qm : Addr} {l g l' g' : Option Int} {ms ms' : List Int} (b : BdAt H p1 S ws l g pm ms) (b' : BdAt H q1 S ws l' g' qm ms') (h2 : H p2 = some (.tup (ws.map V.str))) (h2' : H q2 = some (.tup (ws.map V.str)))
    (hb : H pb = some (.tup [.ref p1, .ref p2])) (hb' : H qb = some (.tup [.ref q1, .ref q2])) : SameD 3 H (.ref qb) (.ref pb) := by
  have e1 := b.ls.uniq b'.ls
  have e2 := b.gs.uniq b'.gs
  have e3 := SortedOf.uniq b.so b'.so
  subst e1 e2 e3
  have hms : ms.length ≤ 1000000 := SortedOf.len (B := 1000000) b.so fun n d => d.small ok hw
  refine .inr ⟨qb, pb, _, _, rfl, rfl, hb', hb, rfl, by show 2 ≤ 1000000; decide, fun i u v hu hv => ?_⟩
  match i, hu, hv with
  | 0, hu, hv =>
    cases hu
    cases hv
    refine .inr ⟨q1, p1, _, _, rfl, rfl, b'.tp, b.tp, rfl, by show 3 ≤ 1000000; decide, fun i u v hu hv => ?_⟩
    match i, hu, hv with
    | 0, hu, hv =>
      cases hu
      cases hv
      exact .inl ⟨rfl, mostV_atom _⟩
    | 1, hu, hv =>
      cases hu
      cases hv
      exact .inl ⟨rfl, mostV_atom _⟩
    | 2, hu, hv =>
      cases hu
      cases hv
      refine .inr ⟨qm, pm, _, _, rfl, rfl, b'.tm, b.tm, rfl, by rw [List.length_map]; exact hms, fun i u v hu hv => ?_⟩
      rw [hu] at hv
      cases hv
      rw [List.getElem?_map] at hu
      obtain ⟨n, _, rfl⟩ := Option.map_eq_some_iff.mp hu
      exact ⟨rfl, .inr (.inr (.inl ⟨n, rfl⟩))⟩
    | i + 3, hu, hv => simp at hu
  | 1, hu, hv =>
    cases hu
    cases hv
    refine .inr ⟨q2, p2, _, _, rfl, rfl, h2', h2, rfl, by rw [List.length_map]; omega, fun i u v hu hv => ?_⟩
    rw [hu] at hv
    cases hv
    rw [List.getElem?_map] at hu
    obtain ⟨x, _, rfl⟩ := Option.map_eq_some_iff.mp hu
    exact .inl ⟨rfl, .inr (.inr (.inr ⟨x, rfl⟩))⟩
  | i + 2, hu, hv => simp at hu
theorem kp_tup {M : List Addr} {H H' : Hp} {q : Addr} {xs : List V} (k : Kp M H H') (h : ∀ b ∈ M, ∀ ys, H b ≠ some (.tup ys)) (e : H q = some (.tup xs)) : H' q = some (.tup xs) := k _ _ e fun z => h q z xs e
theorem BdAt.kp {M : List Addr} {H H' : Hp} {p : Addr} {S : SyS} {ws : List Str} {l g : Option Int} {pm : Addr} {ms : List Int} (b : BdAt H p S ws l g pm ms) (k : Kp M H H') (h : ∀ b ∈ M, ∀ ys, H b ≠ some (.tup ys)) : BdAt H' p S ws l g pm ms :=
  ⟨kp_tup k h b.tp, kp_tup k h b.tm, b.ls, b.gs, b.so⟩
/-- how things stand while the words are tried -/
structure TrI (a : Ad) (Hb H' : Hp) (r : RA) (S : SyS) (ws : List Str) (fd wl : Addr) (ns : List Int) (done wds : List Str) : Prop where
  kp : Kp [r.la, r.va, fd, wl] Hb H'
  rd : RdAt a H' r S ws (Full ws)
  fdk : FdAt H' fd (fun v => v ∈ ns ∧ ∃ w ∈ done, Push S ws w ∧ Poss S (ws ++ [w]) v)
  wll : H' wl = some (.lst (wds.map V.str))
  wm : ∀ w, w ∈ wds ↔ w ∈ done ∧ Push S ws w
  wn : wds.length ≤ done.length
theorem FdAt.same {H H' : Hp} {fd : Addr} {Pn : Int → Prop} (h : FdAt H fd Pn) (k : Same H H') : FdAt H' fd Pn := by
  obtain ⟨kvs, ns, h1, h2⟩ := h
  exact ⟨kvs, ns, k _ _ h1, h2⟩
theorem FdAt.kp {M : List Addr} {H H' : Hp} {fd : Addr} {Pn : Int → Prop} (h : FdAt H fd Pn) (k : Kp M H H') (hm : fd ∉ M) : FdAt H' fd Pn := by
  obtain ⟨kvs, ns, h1, h2⟩ := h
  exact ⟨kvs, ns, k _ _ h1 hm, h2⟩
theorem TrI.same {a : Ad} {Hb H1 H2 : Hp} {r : RA} {S : SyS} {ws : List Str} {fd wl : Addr} {ns : List Int} {done wds : List Str} (h : TrI a Hb H1 r S ws fd wl ns done wds) (k : Same H1 H2) : TrI a Hb H2 r S ws fd wl ns done wds :=
  ⟨h.kp.trans (.of_same k), h.rd.same k, h.fdk.same k, k _ _ h.wll, h.wm, h.wn⟩
theorem TrI.noT {a : Ad} {Hb H1 : Hp} {r : RA} {S : SyS} {ws : List Str} {fd wl : Addr} {ns : List Int} {done wds : List Str} (h : TrI a Hb H1 r S ws fd wl ns done wds) : ∀ b ∈ [r.la, r.va, fd, wl], ∀ ys, H1 b ≠ some (.tup ys) := by
  intro b hb ys e
  obtain ⟨kv, ek, _⟩ := h.rd.va
  obtain ⟨kf, nf, ef, _⟩ := h.fdk
  simp only [List.mem_cons, List.not_mem_nil, or_false] at hb
  rcases hb with rfl | rfl | rfl | rfl
  · rw [h.rd.la] at e
    cases e
  · rw [ek] at e
    cases e
  · rw [ef] at e
    cases e
  · rw [h.wll] at e
    cases e
def tbTried (K : PySem.W.Frag) (a : Ad) (W : WX) : TS := tSeq (tAsg (tMethX a.cRd "push" (sp_push a) (WE W) (tVar 0) (tCons (tVar 5) tNil)) (gName 7)) (tSeq (tDrop (tBM K "list" rAppend (tVar 4) (tCons (tVar 5) tNil)))
  (tSeq (tIfS (tOr (tTest (tOp (rEqD K) (tOp (rIxT K) (tVar 7) (tC (.int 2))) (tTup tNil))) (tNot (tB (tMethG a.cRd "allows" (sp_allows a) (tVar 0) (tCons (tOp (rIxT K) (tVar 7) (tC (.int 0))) tNil))))) (tRet (tC .non)) tNext)
  (tSeq (tFor (iList K (tVar 2)) (gName 8) (tIfS (tB (tMethG a.cRd "allows" (sp_allows a) (tVar 0) (tCons (tVar 8) tNil))) (sDPut (tVar 3) (tVar 8) (tC (.bl true))) tNext))
  (tIfS (tNot (tB (tCallG (sp_lSame 3) (tCons (tTup (tCons (tMeth a.cRd "pop" (sp_pop a) [] E0 (tVar 0) tNil) (tCons (tMethG a.cRd "words" (sp_rdWords a) (tVar 0) tNil) tNil))) (tCons (tVar 6) tNil))))) (tRet (tC .non)) tNext))))
section
variable {P : Program} {w : World} {K : PySem.W.Frag} {mg : Str → Option Value} {base : Heap} {a : Ad}
theorem g_lTried (T : Txt K mg a) (G_push : FnOk P w K mg base (L2N.CX P w) 87 a.f_push a.d_push ["self", "word"] (sp_push a)) (G_pop : FnOk P w K mg base CX0 87 a.f_pop a.d_pop ["self"] (sp_pop a)) (G_bounds : FnG P w K mg base 86 a.f_bounds a.d_bounds ["self"] (sp_bounds a))
    (G_allows : FnG P w K mg base 85 a.f_allows a.d_allows ["self", "value"] (sp_allows a)) (G_rdWords : FnG P w K mg base 1 a.f_rdWords a.d_rdWords ["self"] (sp_rdWords a)) (G_sysWords : FnG P w K mg base 1 a.f_sysWords a.d_sysWords ["self"] (sp_sysWords a)) (G_lSame : FnG P w K mg base 5 a.f_lSame a.d_lSame ["_law_actual", "_law_due"] (sp_lSame 3)) :
    FnOk P w K mg base CX0 88 a.f_lTried a.d_lTried ["_law_reader", "_law_system", "_law_numbers"] (sp_lTried a) := by
  refine T.F_lTried.ok sc_lTried (fun vs H Q E h => ?_) (fun cdv A outer s H vs Q E hr h => ?_)
  · obtain ⟨r, S, ws, nl, ns, rfl, _⟩ := h
    rfl
  · obtain ⟨r, S, ws, nl, ns, rfl, hd, ok, hw, hne, hnl, hnla, hn1, hn2, hav, k⟩ := h
    have hu64 : (A.deeper (envOfC "_law_tried" (defScope s_lTried) s.heap.objs.size a.f_lTried cdv)).units + 64 < cLine := by
      have := hr.un
      omega
    refine ⟨_, (pss_cons (ps_set (i := 3) sc_lTried.nd rfl (Or.inl rfl) pe_dnewK)
      (pss_cons (ps_set (i := 4) sc_lTried.nd rfl (Or.inl rfl) (pe_lst pa_nil))
      (pss_cons (psg_for PassesOwn.never (.inl rfl) (pigT K (peg_meth0 (.inl rfl) (pv 1) T.cl_cSys T.e_sysWords G_sysWords ((roomH_of hr).mono (by omega)) T.b_sysWords)) (pg_name (i := 5) sc_lTried.nd rfl (.inl rfl))
      (pss_cons (ps_set (i := 6) sc_lTried.nd rfl (Or.inl rfl) (pe_tup (pa_cons (peg_meth0 (.inl rfl) (pv 0) T.cl_cRd T.e_bounds G_bounds ((roomH_of hr).mono (by omega)) T.b_bounds) (pa_cons (peg_meth0 (.inl rfl) (pv 0) T.cl_cRd T.e_rdWords G_rdWords ((roomH_of hr).mono (by omega)) T.b_rdWords) pa_nil))))
      (pss_one (L2N.ps_try_many (tb := tbTried K a) rfl rfl takes_no (fun W pn xe tkW po => (pss_cons (ps_set (i := 7) sc_lTried.nd rfl (Or.inl rfl) (pe_methX (pv 0) T.cl_cRd T.e_push G_push (hr.mono (by omega)) T.b_push (fun σ => L2N.passAt tkW σ) (pa_cons (pv 5) pa_nil)))
      (pss_cons (ps_expr (pe_bm PySem.F.plainAttrs_list PySem.F.slot_list_append PySem.F.type_list_append mt_append (pv 4) (pa_cons (pv 5) pa_nil)))
      (pss_cons (ps_if (PW.pt (pw_or (pt_cmpR (op_eqD hu64) (pe_ix (ixT K) (pv 7) pe_int (fun _ _ => rfl)) (pe_tup pa_nil) (nomark _)) (pw_or1 (pt_not (pt_val (peg_meth (.inl rfl) (pv 0) T.cl_cRd T.e_allows G_allows ((roomH_of hr).mono (by omega)) T.b_allows (pa_cons (pe_ix (ixT K) (pv 7) pe_int (fun _ _ => rfl)) pa_nil))))))) (pss_one (ps_ret pe_non)) pss_nil)
      (pss_cons (psg_for po (.inl rfl) (pigL K (pv 2)) (pg_name (i := 8) sc_lTried.nd rfl (.inl rfl))
      (pss_one (ps_if (pt_val (peg_meth (.inl rfl) (pv 0) T.cl_cRd T.e_allows G_allows ((roomH_of hr).mono (by omega)) T.b_allows (pa_cons (pv 8) pa_nil))) (pss_one (ps_dput (huH (roomH_of hr)) (pv 3) (pv 8) pe_bl rfl)) pss_nil)))
      (pss_one (ps_if (pt_not (pt_val (peg_call (.inl rfl) G_lSame ((roomH_of hr).mono (by omega)) (by rfl) T.m_lSame T.F_lSame.kp T.b_lSame (pa_cons (pe_tup (pa_cons (pe_meth0 (pv 0) T.cl_cRd T.e_pop G_pop (hr.mono (by omega)) T.b_pop .nil pass0) (pa_cons (peg_meth0 (.inl rfl) (pv 0) T.cl_cRd T.e_rdWords G_rdWords ((roomH_of hr).mono (by omega)) T.b_rdWords) pa_nil))) (pa_cons (pv 6) pa_nil))))) (pss_one (ps_ret pe_non)) pss_nil)))))))
      (.cons ⟨by rfl, by decide, .inl T.gNP⟩ (fun ae oe cls d pn2 zn vs => (pss_one (ps_if (pt_not (pt_val (peg_call (hot_suite zn vs) G_lSame ((room_mark hr _).mono (by omega)) (by rfl) T.m_lSame T.F_lSame.kp T.b_lSame (pa_cons (pe_tup (pa_cons (peg_meth0 (hot_suite zn vs) (pv 0) T.cl_cRd T.e_bounds G_bounds ((room_mark hr _).mono (by omega)) T.b_bounds) (pa_cons (peg_meth0 (hot_suite zn vs) (pv 0) T.cl_cRd T.e_rdWords G_rdWords ((room_mark hr _).mono (by omega)) T.b_rdWords) pa_nil))) (pa_cons (pv 6) pa_nil))))) (pss_one (ps_ret pe_non)) pss_nil))) .nil)))))
      (pss_one (ps_ret (pe_tup (pa_cons (pv 3) (pa_cons (pv 4) pa_nil)))))))), ?_⟩
    refine fun fd hfd => ⟨z0, fun wl hwl => ?_⟩
    dsimp only [gName]
    have s1 : Same H (upd H fd (.dK [])) := same_upd _ hfd
    have s2 : Same (upd H fd (.dK [])) (upd (upd H fd (.dK [])) wl (.lst [])) := same_upd _ hwl
    have F2 : FdAt (upd (upd H fd (.dK [])) wl (.lst [])) fd (fun _ => False) := ⟨[], [], s2 _ _ upd_same, rfl, .nil, fun n => by simp⟩
    have wl0 : H wl = none := s1.free hwl
    have nwl : wl ≠ r.la ∧ wl ≠ r.va ∧ wl ≠ fd ∧ wl ≠ nl := by
      obtain ⟨kv, ek, _⟩ := hd.va
      exact ⟨(ne_of_none hd.la wl0).symm, (ne_of_none ek wl0).symm, (ne_of_none upd_same hwl).symm, (ne_of_none hnl wl0).symm⟩
    have nfd : fd ≠ r.la ∧ fd ≠ r.va ∧ fd ≠ r.s.tv ∧ fd ≠ r.s.tr ∧ fd ≠ nl := by
      obtain ⟨kv, ek, _⟩ := hd.va
      exact ⟨(ne_of_none hd.la hfd).symm, (ne_of_none ek hfd).symm, (ne_of_none hd.sys.tv hfd).symm, (ne_of_none hd.sys.tr hfd).symm, (ne_of_none hnl hfd).symm⟩
    have rd2 : RdAt a (upd (upd H fd (.dK [])) wl (.lst [])) { r with av := wl :: r.av } S ws (Full ws) := ((hd.same s1).avoid hwl).same s2
    have hav2 : ∀ b ∈ wl :: r.av, upd (upd H fd (.dK [])) wl (.lst []) b ≠ none := fun b hb e => by
      rcases List.mem_cons.mp hb with z | z
      · rw [z, upd_same] at e
        cases e
      · exact hav b z ((s1.trans s2).free e)
    have hnl2 := (s1.trans s2) _ _ hnl
    obtain ⟨H2, hH2⟩ : ∃ H2, H2 = upd (upd H fd (.dK [])) wl (.lst []) := ⟨_, rfl⟩
    have sH2 : Same H H2 := hH2 ▸ s1.trans s2
    have wl2 : H2 wl = some (.lst []) := hH2 ▸ upd_same
    rw [← hH2] at rd2 hav2 hnl2 F2 ⊢
    obtain ⟨r', hr'⟩ : ∃ r' : RA, r' = { r with av := wl :: r.av } := ⟨_, rfl⟩
    have p0 : r'.p = r.p := by rw [hr']
    have la0 : r'.la = r.la := by rw [hr']
    have va0 : r'.va = r.va := by rw [hr']
    have s0 : r'.s = r.s := by rw [hr']
    have wav : wl ∈ r'.av := by rw [hr']; exact List.mem_cons_self
    rw [← hr'] at rd2
    replace hav2 : ∀ b ∈ r'.av, H2 b ≠ none := by rw [hr']; exact hav2
    have fin_ : ∀ {t : Addr} {wds : List Str} {H' : Hp}, Kp [r'.la, r'.va] H H' → RdAt a H' r' S ws (Full ws) → H' t = some (.tup [.ref fd, .ref wl]) → FdAt H' fd (fun v => v ∈ ns ∧ ∃ w, Push S ws w ∧ Poss S (ws ++ [w]) v) → H' wl = some (.lst (wds.map V.str)) → (∀ w, w ∈ wds ↔ Push S ws w) → wds.length ≤ 8 → Q (.ref t) H' := by
      intro t wds H' k1 rd f1 f2 f3 f4 f5
      rw [la0, va0] at k1
      exact k t fd wl wds H' k1 (by rw [hr'] at rd; exact rd.less) f1 f2 f3 f4 f5
    rw [← p0, ← s0]
    rw [← la0] at nwl nfd hnla
    rw [← va0] at nwl nfd
    rw [← s0] at nfd
    clear hd hav k s1 s2
    clear p0 la0 va0 s0 hr'
    generalize hrr : r' = r0 at *
    refine ⟨_, rfl, r0.s.p, r0.s.dx, _, rfl, rd2.sys.ob, rfl, r0.s, S, rfl, rd2.sys, ok, fun tw Hb sb htw => ⟨tw, rfl, ⟨_, SqT.of htw⟩, ?_⟩⟩
    have I0 : TrI a Hb Hb r0 S ws fd wl ns [] [] := ⟨.refl _ _, rd2.same sb, (F2.same sb).congr fun n => by simp, sb _ _ wl2, fun w => by simp, Nat.le_refl _⟩
    have hnlb := sb _ _ hnl2
    have lenw := allWords_len ok
    refine for_tup (K := K) (a := tw) (xs := (allWords S).map V.str) (fun i σ H' => ∃ (wds : List Str) (v5 v6 v7 v8 : Option V), σ = [some (.ref r0.p), some (.ref r0.s.p), some (.ref nl), some (.ref fd), some (.ref wl), v5, v6, v7, v8] ∧ TrI a Hb H' r0 S ws fd wl ns ((allWords S).take i) wds)
      ⟨[], none, none, none, none, rfl, I0⟩ (fun i σ H' _ ⟨_, _, _, _, _, _, tr⟩ => SqT.of (kp_tup tr.kp I0.noT htw)) ?_ ?_
    · rintro i x σ H3 hx ⟨wds, v5, v6, v7, v8, rfl, tr⟩
      rw [List.getElem?_map] at hx
      obtain ⟨w, hwi, rfl⟩ := Option.map_eq_some_iff.mp hx
      have hwa : w ∈ allWords S := List.mem_of_getElem? hwi
      rw [take_snoc hwi]
      have hdone : ((allWords S).take i).length ≤ 100000 := by rw [List.length_take]; omega
      generalize (allWords S).take i = done at tr hdone
      have hws6 : ws.length ≤ 6 := by omega
      refine ⟨_, rfl, r0.p, r0.dx, _, rfl, tr.rd.ob, rfl, r0, S, ws, rfl, tr.rd, ok, hws6, hne, fun p1 l g pm ms H4 s4 b4 => ?_⟩
      have tr4 := tr.same s4
      refine ⟨_, rfl, r0.p, r0.dx, _, rfl, tr4.rd.ob, rfl, r0, S, ws, Full ws, rfl, tr4.rd, fun p2 H5 s5 h5 => ⟨z2, fun pb hpb => ?_⟩⟩
      have tr6 := (tr4.same s5).same (same_upd (.tup [.ref p1, .ref p2]) hpb)
      have b6 := (b4.same s5).same (same_upd (.tup [.ref p1, .ref p2]) hpb)
      have h6 := (same_upd (.tup [.ref p1, .ref p2]) hpb) _ _ h5
      obtain ⟨H6, hH6⟩ : ∃ H6, H6 = upd H5 pb (.tup [.ref p1, .ref p2]) := ⟨_, rfl⟩
      have pb6 : H6 pb = some (.tup [.ref p1, .ref p2]) := hH6 ▸ upd_same
      rw [← hH6] at tr6 b6 h6 ⊢
      have hav6 : ∀ b ∈ r0.av, H6 b ≠ none := fun b hb e => by
        cases e2 : H2 b with
        | none => exact hav2 b hb e2
        | some o =>
          by_cases hm : b ∈ [r0.la, r0.va, fd, wl]
          · obtain ⟨kv, ek, _⟩ := tr6.rd.va
            obtain ⟨kf, nf, ef, _⟩ := tr6.fdk
            simp only [List.mem_cons, List.not_mem_nil, or_false] at hm
            rcases hm with rfl | rfl | rfl | rfl
            · rw [tr6.rd.la] at e
              cases e
            · rw [ek] at e
              cases e
            · rw [ef] at e
              cases e
            · rw [tr6.wll] at e
              cases e
          · rw [tr6.kp b o (sb _ _ e2) hm] at e
            cases e
      have nfdM : fd ∉ [r0.la, r0.va] := by simp [nfd.1, nfd.2.1]
      have nwlM : wl ∉ [r0.la, r0.va] := by simp [nwl.1, nwl.2.1]
      have sub2 : ∀ b ∈ [r0.la, r0.va], b ∈ [r0.la, r0.va, fd, wl] := by simp
      show tbTried K a _ _ _ _
      unfold tbTried
      refine ⟨_, rfl, r0.p, r0.dx, _, rfl, tr6.rd.ob, rfl, _, rfl, r0, S, ws, w, rfl, tr6.rd, ok, hw, hwa, hav6, fun p l2 g2 pm2 ms2 H7 hex k7 rd7 b7 => ?_, fun H7 hno k7 rd7 => ?_⟩
      · -- pushed
        have wl7 := k7 _ _ tr6.wll nwlM
        have fd7 := tr6.fdk.kp k7 nfdM
        refine ⟨_, rfl, .inl ⟨rfl, _, SqL.of wl7⟩, _, rfl, wl, _, _, rfl, rfl, wl7, by rw [List.length_map]; exact small_len (by have := tr6.wn; have : done.length ≤ 100000 := hdone; omega), ?_⟩
        have e8 : upd H7 wl (.lst (wds.map V.str ++ [.str w])) = upd H7 wl (.lst ((wds ++ [w]).map V.str)) := by rw [List.map_append]; rfl
        rw [e8]
        obtain ⟨H8, hH8⟩ : ∃ H8, H8 = upd H7 wl (.lst ((wds ++ [w]).map V.str)) := ⟨_, rfl⟩
        have k8 : Kp [wl] H7 H8 := hH8 ▸ fld_kp _
        have wl8 : H8 wl = some (.lst ((wds ++ [w]).map V.str)) := hH8 ▸ upd_same
        rw [← hH8]
        have rd8 := rd7.lstKp k8 wl7 nwl.1 wav
        have no7 : ∀ b ∈ [wl], ∀ ys, H7 b ≠ some (.tup ys) := fun b hb ys e => by
          rw [List.mem_singleton.mp hb, wl7] at e
          cases e
        have b8 := b7.kp k8 no7
        have fd8 := fd7.kp k8 (by simpa using nwl.2.2.1.symm)
        obtain ⟨v0, rfl, dv0, _⟩ := b8.ls.cons (by simp)
        have hws1 : (ws ++ [w]).length ≤ 6 := by rw [List.length_append, List.length_singleton]; omega
        have v0b := dv0.small ok hws1
        have hne2 : ms2.isEmpty = false := by
          cases ms2 with
          | nil => exact nomatch (b8.so.2 v0).mpr dv0
          | cons x y => rfl
        refine ⟨_, rfl, p, _, 2, .ref pm2, rfl, rfl, SqT.of b8.tp, rfl, z0, fun e he => eq_nilT ((same_upd _ he) _ _ b8.tm) upd_same ⟨_, rfl, ?_⟩⟩
        rw [hne2]
        have rd9 := rd8.same (same_upd (.tup []) he)
        have b9 := b8.same (same_upd (.tup []) he)
        refine iteF ⟨_, rfl, r0.p, r0.dx, _, rfl, rd9.ob, rfl, _, rfl, p, _, 0, .int v0, rfl, rfl, SqT.of b9.tp, rfl, r0, S, ws ++ [w], v0, rfl, rd9, ok, hws1, by omega, fun bb H10 s10 hbb => ⟨_, rfl, ?_⟩⟩
        have : bb = true := hbb.mpr ⟨[], by rw [List.append_nil]; exact dv0⟩
        subst this
        have s810 := (same_upd (.tup []) he).trans s10
        have rd10 := rd8.same s810
        have fd10 := fd8.same s810
        have wl10 := s810 _ _ wl8
        refine iteF ?_
        have nl6 : H6 nl = some (.lst (ns.map V.int)) := tr6.kp _ _ hnlb (by
          obtain ⟨kv, ek, _⟩ := rd2.va
          have h1 : nl ≠ r0.va := ne_of hnl2 ek (fun e => nomatch e)
          simp [hnla, h1, nfd.2.2.2.2.symm, nwl.2.2.2.symm])
        have nl10 : H10 nl = some (.lst (ns.map V.int)) := s810 _ _ (k8 _ _ (k7 _ _ nl6 (by
          obtain ⟨kv, ek, _⟩ := rd2.va
          have h1 : nl ≠ r0.va := ne_of hnl2 ek (fun e => nomatch e)
          simp [hnla, h1])) (by simpa using nwl.2.2.2.symm))
        dsimp only [tNext]
        refine seq_gen (fun σ' H' => ∃ v8, σ' = [some (.ref r0.p), some (.ref r0.s.p), some (.ref nl), some (.ref fd), some (.ref wl), some (.str w), some (.ref pb), some (.ref p), v8] ∧ Kp [fd] H10 H' ∧ RdAt a H' r0 S (ws ++ [w]) (Full (ws ++ [w])) ∧ FdAt H' fd (fun v => v ∈ ns ∧ ∃ w' ∈ done ++ [w], Push S ws w' ∧ Poss S (ws ++ [w']) v)) (fun R hR => ?_) ?_
        · refine ⟨_, rfl, nl, rfl, ⟨_, SqL.of nl10⟩, for_list (K := K) (a := nl) (xs := ns.map V.int) (fun t σ H' => ∃ v8, σ = [some (.ref r0.p), some (.ref r0.s.p), some (.ref nl), some (.ref fd), some (.ref wl), some (.str w), some (.ref pb), some (.ref p), v8] ∧ Kp [fd] H10 H' ∧ RdAt a H' r0 S (ws ++ [w]) (Full (ws ++ [w])) ∧
              FdAt H' fd (fun v => (v ∈ ns ∧ ∃ w' ∈ done, Push S ws w' ∧ Poss S (ws ++ [w']) v) ∨ (v ∈ ns.take t ∧ Poss S (ws ++ [w]) v)))
            ⟨v8, rfl, .refl _ _, rd10, fd10.congr fun v => by simp⟩ (fun t σ H' _ ⟨_, _, k, _⟩ => SqL.of (k _ _ nl10 (by simpa using nfd.2.2.2.2.symm))) ?_ ?_⟩
          · rintro t x σ H11 hx2 ⟨v8, rfl, k11, rd11, fd11⟩
            rw [List.getElem?_map] at hx2
            obtain ⟨v, hv, rfl⟩ := Option.map_eq_some_iff.mp hx2
            have hvm : v ∈ ns := List.mem_of_getElem? hv
            refine ⟨_, rfl, r0.p, r0.dx, _, rfl, rd11.ob, rfl, _, rfl, r0, S, ws ++ [w], v, rfl, rd11, ok, hws1, hn2 v hvm, fun b2 H12 s12 hb2 => ⟨_, rfl, ?_⟩⟩
            have fd12 := fd11.same s12
            have rd12 := rd11.same s12
            rw [take_snoc hv]
            cases b2 with
            | true =>
              have hp := hb2.mp rfl
              obtain ⟨H13, pu, F13, k13⟩ := fd12.put (n := v) (v := .bl true) (B := 1500000) (fun m hm => by
                have h1 : m ∈ ns ∧ 1 ≤ m := by
                  rcases hm with ⟨h1, _, _, _, h2⟩ | ⟨h1, h2⟩
                  · exact ⟨h1, h2.pos ok⟩
                  · exact ⟨List.mem_of_mem_take h1, h2.pos ok⟩
                exact ⟨h1.2, hn2 m h1.1⟩) (by decide)
              obtain ⟨kf, nf, ef, _⟩ := fd12
              refine iteT ⟨_, rfl, _, rfl, fd, H13, rfl, pu, _, rfl, (k11.trans (.of_same s12)).trans k13, rd12.dicKp k13 ef nfd.2.2.1 nfd.2.2.2.1, F13.congr fun m => ?_⟩
              constructor
              · rintro ((z | ⟨z1, z2⟩) | rfl)
                · exact .inl z
                · exact .inr ⟨List.mem_append_left _ z1, z2⟩
                · exact .inr ⟨by simp, hp⟩
              · rintro (z | ⟨z1, z2⟩)
                · exact .inl (.inl z)
                · rcases List.mem_append.mp z1 with y | y
                  · exact .inl (.inr ⟨y, z2⟩)
                  · exact .inr (List.mem_singleton.mp y)
            | false =>
              refine iteF ⟨_, rfl, k11.trans (.of_same s12), rd12, fd12.congr fun m => ?_⟩
              constructor
              · rintro (z | ⟨z1, z2⟩)
                · exact .inl z
                · exact .inr ⟨List.mem_append_left _ z1, z2⟩
              · rintro (z | ⟨z1, z2⟩)
                · exact .inl z
                · rcases List.mem_append.mp z1 with y | y
                  · exact .inr ⟨y, z2⟩
                  · rw [List.mem_singleton.mp y] at z2
                    exact nomatch hb2.mpr z2
          · rintro σ H11 ⟨v8, rfl, k11, rd11, fd11⟩
            rw [List.length_map, List.take_length] at fd11
            refine hR _ _ ⟨v8, rfl, k11, rd11, fd11.congr fun v => ?_⟩
            constructor
            · rintro (⟨h1, w', h2, h3⟩ | ⟨h1, h2⟩)
              · exact ⟨h1, w', List.mem_append_left _ h2, h3⟩
              · exact ⟨h1, w, by simp, ⟨hwa, hex⟩, h2⟩
            · rintro ⟨h1, w', h2, h3⟩
              rcases List.mem_append.mp h2 with y | y
              · exact .inl ⟨h1, w', y, h3⟩
              · rw [List.mem_singleton.mp y] at h3
                exact .inr ⟨h1, h3.2⟩
        rintro σ' H11 ⟨v8, rfl, k11, rd11, fd11⟩
        have wl11 := k11 _ _ wl10 (by simpa using nwl.2.2.1)
        refine ⟨_, rfl, r0.p, r0.dx, _, rfl, rd11.ob, rfl, r0, S, ws, w, rfl, rd11, ok, hw, hne, fun q1 l' g' qm ms' H12 k12 rd12 b12 => ?_⟩
        refine ⟨_, rfl, r0.p, r0.dx, _, rfl, rd12.ob, rfl, r0, S, ws, Full ws, rfl, rd12, fun q2 H13 s13 h13 => ⟨z2, fun qb hqb => ?_⟩⟩
        have k613 : Kp [r0.la, r0.va, fd, wl] H6 (upd H13 qb (.tup [.ref q1, .ref q2])) := (((((kp_sub k7 sub2).trans (kp_sub k8 (by simp))).trans (.of_same s810)).trans (kp_sub k11 (by simp))).trans (kp_sub k12 sub2)).trans (.of_same (s13.trans (same_upd _ hqb)))
        have sq := same_upd (.tup [.ref q1, .ref q2]) hqb
        have bs := before_same ok hws6 (b6.kp k613 tr6.noT) ((b12.same s13).same sq) (kp_tup k613 tr6.noT h6) (sq _ _ h13) (kp_tup k613 tr6.noT pb6) upd_same
        refine ⟨_, rfl, _, _, rfl, bs, fun H14 s14 => ⟨_, rfl, iteF ⟨wds ++ [w], _, _, _, _, rfl, ?_⟩⟩⟩
        have s1214 := (s13.trans sq).trans s14
        refine ⟨tr6.kp.trans (k613.trans (.of_same s14)), rd12.same s1214, (fd11.kp k12 nfdM).same s1214, s1214 _ _ (k12 _ _ wl11 nwlM), fun x => ?_, by rw [List.length_append, List.length_append]; have := tr6.wn; omega⟩
        rw [List.mem_append, tr6.wm x, List.mem_append, List.mem_singleton]
        constructor
        · rintro (z | rfl)
          · exact ⟨.inl z.1, z.2⟩
          · exact ⟨.inr rfl, hwa, hex⟩
        · rintro ⟨z | rfl, h⟩
          · exact .inl ⟨z, h⟩
          · exact .inr rfl
      · -- not possible
        refine ⟨true, T.eNP, fun _ ae hae => ?_, fun e => nomatch e⟩
        refine ⟨_, rfl, r0.p, r0.dx, _, rfl, rd7.ob, rfl, r0, S, ws, rfl, rd7, ok, hws6, hne, fun q1 l' g' qm ms' H12 s12 b12 => ?_⟩
        have rd12 := rd7.same s12
        refine ⟨_, rfl, r0.p, r0.dx, _, rfl, rd12.ob, rfl, r0, S, ws, Full ws, rfl, rd12, fun q2 H13 s13 h13 => ⟨z2, fun qb hqb => ?_⟩⟩
        have sq := same_upd (.tup [.ref q1, .ref q2]) hqb
        have k613 : Kp [r0.la, r0.va, fd, wl] H6 (upd H13 qb (.tup [.ref q1, .ref q2])) := (kp_sub k7 sub2).trans (.of_same ((s12.trans s13).trans sq))
        have bs := before_same ok hws6 (b6.kp k613 tr6.noT) ((b12.same s13).same sq) (kp_tup k613 tr6.noT h6) (sq _ _ h13) (kp_tup k613 tr6.noT pb6) upd_same
        refine ⟨_, rfl, _, _, rfl, bs, fun H14 s14 => ⟨_, rfl, iteF ⟨wds, _, _, _, _, rfl, ?_⟩⟩⟩
        have s714 := ((s12.trans s13).trans sq).trans s14
        have np : ¬ Push S ws w := fun z => z.2.elim hno
        refine ⟨tr6.kp.trans (k613.trans (.of_same s14)), rd7.same s714, ((tr6.fdk.kp k7 nfdM).same s714).congr fun v => ?_, s714 _ _ (k7 _ _ tr6.wll nwlM), fun x => ?_, by rw [List.length_append]; have := tr6.wn; omega⟩
        · constructor
          · rintro ⟨h1, w', h2, h3⟩
            exact ⟨h1, w', List.mem_append_left _ h2, h3⟩
          · rintro ⟨h1, w', h2, h3⟩
            rcases List.mem_append.mp h2 with y | y
            · exact ⟨h1, w', y, h3⟩
            · rw [List.mem_singleton.mp y] at h3
              exact absurd h3.1 np
        · rw [tr6.wm x, List.mem_append, List.mem_singleton]
          constructor
          · rintro ⟨z, h⟩
            exact ⟨.inl z, h⟩
          · rintro ⟨z | rfl, h⟩
            · exact ⟨z, h⟩
            · exact absurd h np
    · rintro σ H3 ⟨wds, v5, v6, v7, v8, rfl, tr⟩
      rw [List.length_map, List.take_length] at tr
      refine ⟨_, rfl, _, rfl, z2, fun t ht => ?_⟩
      have tr2 := tr.same (same_upd (.tup [.ref fd, .ref wl]) ht)
      refine fin_ (fun b o e hb => ?_) tr2.rd upd_same (tr2.fdk.congr fun v => ?_) tr2.wll (fun w => ?_) (Nat.le_trans tr.wn lenw)
      · refine tr2.kp b o (sb _ _ (sH2 _ _ e)) fun z => ?_
        simp only [List.mem_cons, List.not_mem_nil, or_false] at z hb
        rcases z with z | z | z | z
        · exact hb (.inl z)
        · exact hb (.inr z)
        · rw [z, hfd] at e
          cases e
        · rw [z, wl0] at e
          cases e
      · constructor
        · rintro ⟨h1, w, _, h2⟩
          exact ⟨h1, w, h2⟩
        · rintro ⟨h1, w, h2⟩
          exact ⟨h1, w, h2.1.1, h2⟩
      · rw [tr.wm w]
        exact ⟨fun z => z.2, fun z => ⟨z.1, z⟩⟩
end
end K30
set_option Elab.async false
set_option linter.all false
set_option maxRecDepth 100000
set_option maxHeartbeats 4000000
/-! K30U: one stage. -/
namespace K30
open PySem PySem.Spec PyProof.Rows L2 L2H
open StX (pa_star)
open C8 (pe_gc)
def sp_lStage (a : Ad) : Sp := fun vs H Q _ => ∃ (r : RA) (S : SyS) (ws : List Str), vs = [.ref r.p, .ref r.s.p] ∧ RdAt a H r S ws (Full ws) ∧ S.Ok ∧ ws.length ≤ 5 ∧ (ws ≠ [] → ∃ n, Der S n ws) ∧ (∀ b ∈ r.av, H b ≠ none) ∧
  ∀ wl (wds : List Str) H', Kp [r.la, r.va] H H' → RdAt a H' r S ws (Full ws) → H' wl = some (.lst (wds.map V.str)) → (∀ w, w ∈ wds ↔ Push S ws w) → wds.length ≤ 8 → Q (.ref wl) H'
theorem inV_ints (v : Int) (l : List Int) : inV (.int v) (l.map V.int) = decide (v ∈ l) := by
  unfold inV
  rw [List.any_map]
  cases e : decide (v ∈ l) with
  | true =>
    rw [List.any_eq_true]
    exact ⟨v, of_decide_eq_true e, by simp [eqV]⟩
  | false =>
    rw [List.any_eq_false]
    intro x hx z
    have : x = v := by simpa [eqV] using z
    exact of_decide_eq_false e (this ▸ hx)
theorem flat_ints (l : List Int) : (l.map V.int).all flatV = true := by
  rw [List.all_map, List.all_eq_true]
  exact fun _ _ => rfl
theorem FdAt.val {H : Hp} {fd : Addr} {Pn : Int → Prop} (h : FdAt H fd Pn) : ∃ kvs, H fd = some (.dK kvs) ∧ ∀ v : Int, (valV kvs (Sum.inl v : L2.Key)).isSome = true ↔ Pn v := by
  obtain ⟨kvs, ns, h1, h2, h3, h4⟩ := h
  refine ⟨kvs, h1, fun v => ?_⟩
  rw [← h4 v]
  constructor
  · intro e
    cases e2 : valV kvs (Sum.inl v : L2.Key) with
    | none =>
      rw [e2] at e
      cases e
    | some x =>
      have := valV_in e2
      rw [h2] at this
      obtain ⟨y, hy, e3⟩ := List.mem_map.mp this
      cases e3
      exact hy
  · intro hv
    cases e2 : valV kvs (Sum.inl v : L2.Key) with
    | none => exact absurd (by rw [h2]; exact List.mem_map.mpr ⟨v, hv, rfl⟩) (valV_not e2)
    | some x => rfl
/-- the numbers that are asked for -/
structure NumOk (H0 H' : Hp) (nl : Addr) (ns : List Int) (n : Nat) : Prop where
  nw : H0 nl = none
  at_ : H' nl = some (.lst (ns.map V.int))
  ln : ns.length ≤ n
  hi : ∀ v ∈ ns, v ≤ 1500000
  lo : ∀ v : Int, 1 ≤ v → v < 60 → v ∈ ns
theorem NumOk.more {H0 H1 : Hp} {nl p : Addr} {ns : List Int} {n : Nat} {x : Int} (h : NumOk H0 H1 nl ns n) (k : Same H0 H1) (hp : H1 p = none) (hx : x ≤ 1000001) : NumOk H0 (upd H1 p (.lst (ns.map V.int ++ [.int (x - 1), .int x, .int (x + 1)]))) p (ns ++ [x - 1, x, x + 1]) (n + 3) := by
  refine ⟨k.free hp, ?_, ?_, fun v hv => ?_, fun v h1 h2 => List.mem_append_left _ (h.lo v h1 h2)⟩
  · rw [upd_same, List.map_append]
    rfl
  · rw [List.length_append]
    have := h.ln
    show ns.length + 3 ≤ n + 3
    omega
  · rcases List.mem_append.mp hv with z | z
    · exact h.hi v z
    · simp only [List.mem_cons, List.not_mem_nil, or_false] at z
      rcases z with z | z | z <;> omega
section
variable {P : Program} {w : World} {K : PySem.W.Frag} {mg : Str → Option Value} {base : Heap} {a : Ad}
theorem g_lStage (T : Txt K mg a) (G_lTried : FnOk P w K mg base CX0 88 a.f_lTried a.d_lTried ["_law_reader", "_law_system", "_law_numbers"] (sp_lTried a)) (G_bounds : FnG P w K mg base 86 a.f_bounds a.d_bounds ["self"] (sp_bounds a))
    (G_allows : FnG P w K mg base 85 a.f_allows a.d_allows ["self", "value"] (sp_allows a)) (G_endless : FnG P w K mg base 1 a.f_endless a.d_endless ["self"] (sp_endless a)) (G_isSpoken : FnG P w K mg base 1 a.f_isSpoken a.d_isSpoken ["row", "count"] sp_isSpoken) (G_lSame : FnG P w K mg base 5 a.f_lSame a.d_lSame ["_law_actual", "_law_due"] (sp_lSame 3)) :
    FnOk P w K mg base CX0 89 a.f_lStage a.d_lStage ["_law_reader", "_law_system"] (sp_lStage a) := by
  refine T.F_lStage.ok sc_lStage (fun vs H Q E h => ?_) (fun cdv A outer s H vs Q E hr h => ?_)
  · obtain ⟨r, S, ws, rfl, _⟩ := h
    rfl
  · obtain ⟨r, S, ws, rfl, hd, ok, hw, hne, hav, k⟩ := h
    refine ⟨_, (pss_cons (ps_asg (peg_meth0 (.inl rfl) (pv 0) T.cl_cRd T.e_bounds G_bounds ((roomH_of hr).mono (by omega)) T.b_bounds) (pgT K 3 (.inl rfl) (pgs_cons (pg_name (i := 2) sc_lStage.nd rfl (.inl rfl)) (pgs_cons (pg_name (i := 3) sc_lStage.nd rfl (.inl rfl)) (pgs_cons (pg_name (i := 4) sc_lStage.nd rfl (.inl rfl)) pgs_nil)))))
      (pss_cons (ps_set (i := 5) sc_lStage.nd rfl (Or.inl rfl) (pe_listRg rfl (by rfl) T.z_list (prg_2 (by rfl) T.z_range pe_int pe_int)))
      (pss_cons (psg_for PassesOwn.never (.inl rfl) (pigT K (pe_slice sl_tupA (pv 4) po_none (po_some pe_int))) (pg_name (i := 6) sc_lStage.nd rfl (.inl rfl))
      (pss_one (ps_set (i := 5) sc_lStage.nd rfl (Or.inl rfl) (pe_op op_cat (pv 5) (pe_lst (pa_cons (pe_op op_sub (pv 6) pe_int) (pa_cons (pv 6) (pa_cons (pe_op op_add (pv 6) pe_int) pa_nil))))))))
      (pss_cons (ps_if (pt_cmpR op_notN (pv 3) pe_non (nomark _)) (pss_one (ps_set (i := 5) sc_lStage.nd rfl (Or.inl rfl) (pe_op op_cat (pv 5) (pe_lst (pa_cons (pe_op op_sub (pv 3) pe_int) (pa_cons (pv 3) (pa_cons (pe_op op_add (pv 3) pe_int) pa_nil))))))) pss_nil)
      (pss_cons (ps_set (i := 7) sc_lStage.nd rfl (Or.inl rfl) (pe_call G_lTried (hr.mono (by omega)) (by rfl) T.m_lTried T.F_lTried.kp T.b_lTried .nil pass0 (pa_cons (pv 0) (pa_cons (pv 1) (pa_cons (pv 5) pa_nil)))))
      (pss_cons (ps_if (pt_cmpR op_isN (pv 7) pe_non (nomark _)) (pss_one (ps_ret pe_non)) pss_nil)
      (pss_cons (psg_for PassesOwn.never (.inl rfl) (pigL K (pv 5)) (pg_name (i := 6) sc_lStage.nd rfl (.inl rfl))
      (pss_cons (ps_set (i := 8) sc_lStage.nd rfl (Or.inl rfl) (pe_or (pe_cmpR (inSeq K) (pv 6) (pv 4) (by rfl)) (pe_one (pe_cmp (pc_din (huH (roomH_of hr)) (pv 6) (pe_ix (ixT K) (pv 7) pe_int (fun _ _ => rfl))) rfl))))
      (pss_one (ps_if (pt_not (pt_val (peg_call (.inl rfl) G_lSame ((roomH_of hr).mono (by omega)) (by rfl) T.m_lSame T.F_lSame.kp T.b_lSame (pa_cons (peg_meth (.inl rfl) (pv 0) T.cl_cRd T.e_allows G_allows ((roomH_of hr).mono (by omega)) T.b_allows (pa_cons (pv 6) pa_nil)) (pa_cons (pv 8) pa_nil))))) (pss_one (ps_ret pe_non)) pss_nil))))
      (pss_cons (ps_set (i := 9) sc_lStage.nd rfl (Or.inr rfl) (peg_meth0 (.inl rfl) (pv 1) T.cl_cSys T.e_endless G_endless ((roomH_of hr).mono (by omega)) T.b_endless))
      (pss_cons (ps_if (PW.pt (pw_and (pt_cmpR op_notN (pv 2) pe_non (nomark _)) (pw_and1 (pt_cmpR op_notN (pv 9) pe_non (nomark _))))) (pss_cons (psg_setLc (i := 10) (own := [("_law_value", 6)]) (.inl rfl) sc_lStage.nd rfl rfl (sw_true rfl rfl rfl (by decide +kernel)) (pigL K (pv 5)) (blkOk_by (own := [("_law_value", 6)]) (N := ["_law_reader", "_law_system", "_law_least", "_law_greatest", "_law_sums", "_law_numbers", "_law_value", "_law_told", "_law_due", "_law_row", "_law_spoken"]) (sc := defScope s_lStage) (by decide +kernel)) (fun _ _ _ _ _ => (pg_name (i := 6) sc_lStage.nd rfl (.inl rfl))) (fun _ _ _ _ _ => (pts_one (PW.pt (pw_and (pt_val (peg_meth (.inl rfl) (pv 0) T.cl_cRd T.e_allows G_allows ((roomH_of hr).mono (by omega)) T.b_allows (pa_cons (pv 6) pa_nil))) (pw_and1 (pt_val (peg_call (.inl rfl) G_isSpoken ((roomH_of hr).mono (by omega)) (by rfl) T.m_isSpoken T.F_isSpoken.kp T.b_isSpoken (pa_cons (pv 9) (pa_cons (pv 6) pa_nil))))))))) (fun _ _ _ _ _ => (pv 6)))
      (pss_cons (ps_if (PW.pt (pw_or (PW.pt (pw_and (truthK K (pv 10) (by intro _; rfl)) (pw_and1 (pt_cmpR op_notN (pv 3) pe_non (nomark _))))) (pw_or1 (PW.pt (pw_and (pt_cmpR op_notN (pv 3) pe_non (nomark _)) (pw_and1 (pt_val (peg_call (.inl rfl) G_isSpoken ((roomH_of hr).mono (by omega)) (by rfl) T.m_isSpoken T.F_isSpoken.kp T.b_isSpoken (pa_cons (pv 9) (pa_cons (pv 3) pa_nil)))))))))) (pss_one (ps_ret pe_non)) pss_nil)
      (pss_one (ps_if (PW.pt (pw_and (pt_cmpR op_isN (pv 3) pe_non (nomark _)) (pw_and (pt_not (truthK K (pv 10) (by intro _; rfl))) (pw_and1 (pt_not (pt_val (peg_call (.inl rfl) G_isSpoken ((roomH_of hr).mono (by omega)) (by rfl) T.m_isSpoken T.F_isSpoken.kp T.b_isSpoken (pa_cons (pv 9) (pa_cons (pe_ifExp (truthK K (pv 4) (by intro _; rfl)) (pe_ix (ixT K) (pv 4) (pe_un un_neg pe_int) (fun _ _ => rfl)) (pe_op op_pow pe_int pe_int)) pa_nil))))))))) (pss_one (ps_ret pe_non)) pss_nil)))) pss_nil)
      (pss_cons (ps_if (PW.pt (pw_and (pt_cmpR op_isN (pv 9) pe_non (nomark _)) (pw_and (pt_cmpR op_notN (pv 2) pe_non (nomark _)) (pw_and1 (pt_cmpR op_isN (pv 3) pe_non (nomark _)))))) (pss_one (ps_ret pe_non)) pss_nil)
      (pss_one (ps_ret (pe_ix (ixT K) (pv 7) pe_int (fun _ _ => rfl)))))))))))))), ?_⟩
    have hw6 : ws.length ≤ 6 := by omega
    refine seq_gen (fun σ' H' => ∃ (l g : Option Int) (pm : Addr) (ms : List Int), σ' = [some (.ref r.p), some (.ref r.s.p), some (mostV l), some (mostV g), some (.ref pm), none, none, none, none, none, none] ∧ Same H H' ∧ LeastIs S ws l ∧ GreatIs S ws g ∧ SortedOf (fun n => Der S n ws) ms ∧ H' pm = some (.tup (ms.map V.int))) (fun R hR => ?_) ?_
    · exact ⟨_, rfl, r.p, r.dx, _, rfl, hd.ob, rfl, r, S, ws, rfl, hd, ok, hw6, hne, fun p l g pm ms H1 s1 b1 => ⟨p, _, rfl, SqT.of b1.tp, rfl, _, _, rfl, _, _, rfl, _, _, rfl, rfl, hR _ _ ⟨l, g, pm, ms, rfl, s1, b1.ls, b1.gs, b1.so, b1.tm⟩⟩⟩
    rintro σ' H1 ⟨l, g, pm, ms, rfl, s1, hl, hg, so, hpm⟩
    have hms : ∀ v ∈ ms, v ≤ 1000000 := fun v hv => (((so.2 v).mp hv).small ok hw6).2
    have hgb : ∀ x, g = some x → x ≤ 1000000 := fun x e => by
      obtain ⟨L, f, hL, hf, h1, h2⟩ := hg
      by_cases z : f = 0 ∨ EndSpoken S f
      · rw [h1 z] at e
        cases e
      · rw [h2 z] at e
        cases e
        have := (hL.hi ok hw6).2
        rcases hf.bd.2 with y | y <;> omega
    refine ⟨1, 60, rfl, rfl, RgOk.of_le (by decide) (by decide) (by decide) (by decide), fun nl0 hnl0 => ?_⟩
    have N0 : NumOk H (upd H1 nl0 (.lst (rgV 1 60))) nl0 ((List.range 59).map fun i => (1 : Int) + (i : Nat)) 60 := by
      refine ⟨s1.free hnl0, ?_, by simp, fun v hv => ?_, fun v h1 h2 => ?_⟩
      · rw [upd_same]
        unfold rgV
        rw [List.map_map]
        rfl
      · obtain ⟨i, hi, rfl⟩ := List.mem_map.mp hv
        rw [List.mem_range] at hi
        omega
      · exact List.mem_map.mpr ⟨(v - 1).toNat, List.mem_range.mpr (by omega), by omega⟩
    have s2 : Same H (upd H1 nl0 (.lst (rgV 1 60))) := s1.trans (same_upd _ hnl0)
    have hpm2 := (same_upd (.lst (rgV 1 60)) hnl0) _ _ hpm
    dsimp only [gName]
    refine seq_gen (fun σ' H' => ∃ (nl : Addr) (ns : List Int) (v6 : Option V), σ' = [some (.ref r.p), some (.ref r.s.p), some (mostV l), some (mostV g), some (.ref pm), some (.ref nl), v6, none, none, none, none] ∧ Same H H' ∧ NumOk H H' nl ns 80 ∧ H' pm = some (.tup (ms.map V.int))) (fun R hR => ?_) ?_
    · have loop : ∀ (tp : Addr) (zs : List Int) (H2 : Hp), Same (upd H1 nl0 (.lst (rgV 1 60))) H2 → H2 tp = some (.tup (zs.map V.int)) → zs.length ≤ 4 → (∀ v ∈ zs, v ∈ ms) → _ := fun tp zs H2 k2 htp hzl hzm =>
        for_tup (K := K) (a := tp) (xs := zs.map V.int) (g := gName 6) (tb := tAsg (tOp rCat (tVar 5) (tLst (tCons (tOp (rI0 fun i j => V.int (i - j)) (tVar 6) (tC (V.int 1))) (tCons (tVar 6) (tCons (tOp (rI0 fun i j => V.int (i + j)) (tVar 6) (tC (V.int 1))) tNil))))) (gName 5)) (D := { nx := R, rt := Q }) (H := H2)
          (σ := [some (.ref r.p), some (.ref r.s.p), some (mostV l), some (mostV g), some (.ref pm), some (.ref nl0), none, none, none, none, none])
          (fun i σ H' => ∃ (nl : Addr) (ns : List Int) (v6 : Option V), σ = [some (.ref r.p), some (.ref r.s.p), some (mostV l), some (mostV g), some (.ref pm), some (.ref nl), v6, none, none, none, none] ∧ Same H2 H' ∧ NumOk H H' nl ns (60 + 3 * i))
          ⟨nl0, _, none, rfl, .refl _, N0.nw, k2 _ _ N0.at_, N0.ln, N0.hi, N0.lo⟩ (fun i σ H' _ ⟨_, _, _, _, k3, _⟩ => SqT.of (k3 _ _ htp)) (by
            rintro i x σ H' hx ⟨nl, ns, v6, rfl, k3, N⟩
            rw [List.getElem?_map] at hx
            obtain ⟨v, hv, rfl⟩ := Option.map_eq_some_iff.mp hx
            have hvm := hms v (hzm v (List.mem_of_getElem? hv))
            have hil := (List.getElem?_eq_some_iff.mp hv).1
            refine ⟨_, rfl, _, rfl, _, _, rfl, rfl, _, rfl, _, rfl, _, _, rfl, rfl, z3, fun b hb => ⟨nl, b, _, _, rfl, rfl, (same_upd _ hb) _ _ N.at_, upd_same, ?_, fun p hp => ?_⟩⟩
            · rw [List.length_map]
              have := N.ln
              show ns.length + 3 ≤ sizeLine
              exact Nat.le_of_lt (small_len (by omega))
            · have N1 : NumOk H (upd H' b (.lst [.int (v - 1), .int v, .int (v + 1)])) nl ns (60 + 3 * i) := ⟨N.nw, (same_upd _ hb) _ _ N.at_, N.ln, N.hi, N.lo⟩
              exact ⟨p, _, _, rfl, (k3.trans (same_upd _ hb)).trans (same_upd _ hp), N1.more (((s2.trans k2).trans k3).trans (same_upd _ hb)) hp (by omega)⟩) (by
            rintro σ H' ⟨nl, ns, v6, rfl, k3, N⟩
            rw [List.length_map] at N
            exact hR _ _ ⟨nl, ns, v6, rfl, (s2.trans k2).trans k3, ⟨N.nw, N.at_, by have := N.ln; omega, N.hi, N.lo⟩, k3 _ _ (k2 _ _ hpm2)⟩)
      have hcut : cutV (ms.map V.int) none (some 4) = (ms.take (min 4 ms.length)).map V.int := by
        unfold cutV
        rw [HT.sIx_none, List.drop_zero, Nat.sub_zero, List.length_map, show (some (4 : Int)) = some ((4 : Nat) : Int) from rfl, HT.sIx_nat, List.map_take]
      refine ⟨_, rfl, _, rfl, pm, _, rfl, SqT.of hpm2, fun hwh => ⟨pm, rfl, ⟨_, SqT.of hpm2⟩, loop pm ms _ (.refl _) hpm2 ?_ (fun _ h => h)⟩, fun _ p hp => ⟨p, rfl, ⟨_, SqT.of upd_same⟩, loop p (ms.take (min 4 ms.length)) _ (same_upd _ hp) (by rw [upd_same, hcut]) (by rw [List.length_take]; omega) (fun _ h => List.mem_of_mem_take h)⟩⟩
      have h4 := hwh.2
      rw [List.length_map, show (some (4 : Int)) = some ((4 : Nat) : Int) from rfl, HT.sIx_nat] at h4
      omega
    rintro σ' H2 ⟨nl, ns, v6, rfl, k2, N2, hpm3⟩
    refine seq_gen (fun σ' H' => ∃ (nl : Addr) (ns : List Int) (v6 : Option V), σ' = [some (.ref r.p), some (.ref r.s.p), some (mostV l), some (mostV g), some (.ref pm), some (.ref nl), v6, none, none, none, none] ∧ Same H H' ∧ NumOk H H' nl ns 83 ∧ H' pm = some (.tup (ms.map V.int))) (fun R hR => ?_) ?_
    · cases g with
      | none => exact ⟨_, rfl, rfl, _, rfl, iteF (hR _ _ ⟨nl, ns, v6, rfl, k2, ⟨N2.nw, N2.at_, by have := N2.ln; omega, N2.hi, N2.lo⟩, hpm3⟩)⟩
      | some x =>
        have hx := hgb x rfl
        refine ⟨_, rfl, rfl, _, rfl, iteT ⟨_, rfl, _, rfl, _, _, rfl, rfl, _, rfl, _, rfl, _, _, rfl, rfl, z3, fun b hb => ⟨nl, b, _, _, rfl, rfl, (same_upd _ hb) _ _ N2.at_, upd_same, ?_, fun p hp => hR _ _ ?_⟩⟩⟩
        · rw [List.length_map]
          have := N2.ln
          show ns.length + 3 ≤ sizeLine
          exact Nat.le_of_lt (small_len (by omega))
        · have N1 : NumOk H (upd H2 b (.lst [.int (x - 1), .int x, .int (x + 1)])) nl ns 80 := ⟨N2.nw, (same_upd _ hb) _ _ N2.at_, N2.ln, N2.hi, N2.lo⟩
          exact ⟨p, _, _, rfl, (k2.trans (same_upd _ hb)).trans (same_upd _ hp), N1.more (k2.trans (same_upd _ hb)) hp (by omega), (same_upd _ hp) _ _ ((same_upd _ hb) _ _ hpm3)⟩
    clear nl ns v6 k2 N2 hpm3 H2
    rintro σ' H2 ⟨nl, ns, v6, rfl, k2, N2, hpm3⟩
    have rd2 := hd.same k2
    have nnl : nl ≠ r.la := (ne_of_none hd.la N2.nw).symm
    refine ⟨_, rfl, _, rfl, _, rfl, r, S, ws, nl, ns, rfl, rd2, ok, hw, hne, N2.at_, nnl, by have := N2.ln; omega, N2.hi, fun b hb e => hav b hb (k2.free e), fun t fd wl wds H3 k3 rd3 ht3 fd3 wl3 hwds hw8 => ?_⟩
    have nva : ∀ {b : Addr} {xs : List V}, H2 b = some (.lst xs) → b ≠ r.va := fun e => by
      obtain ⟨kv, ek, _⟩ := rd2.va
      exact ne_of e ek (fun z => nomatch z)
    have nl3 : H3 nl = some (.lst (ns.map V.int)) := k3 _ _ N2.at_ (by simp [nnl, nva N2.at_])
    have noT : ∀ b ∈ [r.la, r.va], ∀ ys, H2 b ≠ some (.tup ys) := by
      intro b hb ys e
      obtain ⟨kv, ek, _⟩ := rd2.va
      simp only [List.mem_cons, List.not_mem_nil, or_false] at hb
      rcases hb with rfl | rfl
      · rw [rd2.la] at e
        cases e
      · rw [ek] at e
        cases e
    have pm3 := kp_tup k3 noT hpm3
    have kH : Kp [r.la, r.va] H H3 := (Kp.of_same k2).trans k3
    refine ⟨_, rfl, rfl, _, rfl, iteF ?_⟩
    dsimp only [tNext]
    obtain ⟨kvf, ef, hvf⟩ := fd3.val
    refine seq_gen (fun σ' H' => ∃ (v6 v8 : Option V), σ' = [some (.ref r.p), some (.ref r.s.p), some (mostV l), some (mostV g), some (.ref pm), some (.ref nl), v6, some (.ref t), v8, none, none] ∧ Same H3 H') (fun R hR => ?_) ?_
    · refine ⟨_, rfl, nl, rfl, ⟨_, SqL.of nl3⟩, for_list (K := K) (a := nl) (xs := ns.map V.int) (fun i σ H' => ∃ (v6 v8 : Option V), σ = [some (.ref r.p), some (.ref r.s.p), some (mostV l), some (mostV g), some (.ref pm), some (.ref nl), v6, some (.ref t), v8, none, none] ∧ Same H3 H')
        ⟨v6, none, rfl, .refl _⟩ (fun i σ H' _ ⟨_, _, _, k⟩ => SqL.of (k _ _ nl3)) ?_ ?_⟩
      · rintro i x σ H4 hx ⟨v6, v8, rfl, k4⟩
        rw [List.getElem?_map] at hx
        obtain ⟨v, hv, rfl⟩ := Option.map_eq_some_iff.mp hx
        have hvm : v ∈ ns := List.mem_of_getElem? hv
        refine seq_gen (fun σ' H' => ∃ (b : Bool) (v8 : Option V), σ' = [some (.ref r.p), some (.ref r.s.p), some (mostV l), some (mostV g), some (.ref pm), some (.ref nl), some (.int v), some (.ref t), some (.bl b), none, none] ∧ H4 = H' ∧ (b = true ↔ Poss S ws v)) (fun R' hR' => ?_) ?_
        · refine ⟨_, rfl, _, rfl, pm, _, rfl, .inr (SqT.of (k4 _ _ pm3)), rfl, flat_ints _, _, rfl, ?_⟩
          rw [inV_ints]
          have ps := poss_split ok (ws := ws) (v := v)
          by_cases hin : v ∈ ms
          · rw [decide_eq_true hin]
            exact iteT (hR' _ _ ⟨true, none, rfl, rfl, fun _ => ps.mpr (.inl ((so.2 v).mp hin)), fun _ => rfl⟩)
          · rw [decide_eq_false hin]
            refine iteF ⟨_, rfl, _, rfl, t, _, 0, .ref fd, rfl, rfl, SqT.of (k4 _ _ ht3), rfl, fd, _, rfl, DGet.k (k := Sum.inl v) (k4 _ _ ef), hR' _ _ ⟨_, none, rfl, rfl, ?_⟩⟩
            rw [hvf v, ps]
            constructor
            · exact fun z => .inr z.2
            · rintro (z | z)
              · exact absurd ((so.2 v).mpr z) hin
              · exact ⟨hvm, z⟩
        rintro σ' H' ⟨b, _, rfl, rfl, hb⟩
        have rd4 := rd3.same k4
        refine ⟨_, rfl, r.p, r.dx, _, rfl, rd4.ob, rfl, _, rfl, r, S, ws, v, rfl, rd4, ok, hw6, N2.hi v hvm, fun bb H5 s5 hbb => ⟨_, rfl, _, _, rfl, ?_, fun H6 s6 => ⟨_, rfl, iteF ⟨_, _, rfl, (k4.trans s5).trans s6⟩⟩⟩⟩
        have : bb = b := by
          cases bb <;> cases b <;> simp_all
        subst this
        exact .inl ⟨rfl, .inr (.inl ⟨_, rfl⟩)⟩
      · rintro σ H4 ⟨v6, v8, rfl, k4⟩
        exact hR _ _ ⟨v6, v8, rfl, k4⟩
    clear v6
    rintro σ' H4 ⟨v6, v8, rfl, k4⟩
    have rd4 := rd3.same k4
    refine seq_gen (fun σ' H' => ∃ v : V, σ' = [some (.ref r.p), some (.ref r.s.p), some (mostV l), some (mostV g), some (.ref pm), some (.ref nl), v6, some (.ref t), v8, some v, none] ∧ H4 = H' ∧ ((∃ (i : Nat) (q : Addr) (row : Rw), v = .ref q ∧ r.s.ms[i]? = some q ∧ S.mult[i]? = some row ∧ row.most = none) ∨ (v = .non ∧ ∀ r ∈ S.mult, r.most ≠ none))) (fun R hR => ?_) ?_
    · exact ⟨_, rfl, r.s.p, r.s.dx, _, rfl, rd4.sys.ob, rfl, r.s, S, rfl, rd4.sys, fun i q row e1 e2 e3 => hR _ _ ⟨_, rfl, rfl, .inl ⟨i, q, row, rfl, e1, e2, e3⟩⟩, fun h => hR _ _ ⟨_, rfl, rfl, .inr ⟨rfl, h⟩⟩⟩
    rintro σ' H' ⟨vr, rfl, rfl, hvr⟩
    refine seq_gen (fun σ' H' => ∃ (v6 v10 : Option V), σ' = [some (.ref r.p), some (.ref r.s.p), some (mostV l), some (mostV g), some (.ref pm), some (.ref nl), v6, some (.ref t), v8, some vr, v10] ∧ Same H4 H') (fun R hR => ?_) ?_
    · cases l with
      | none => exact ⟨_, rfl, rfl, _, rfl, iteF (iteF (hR _ _ ⟨_, _, rfl, .refl _⟩))⟩
      | some lv =>
        refine ⟨_, rfl, rfl, _, rfl, iteT ?_⟩
        rcases hvr with ⟨ir, q, row, rfl, e1, e2, e3⟩ | ⟨rfl, hno⟩
        · have hrow : row ∈ S.mult := List.mem_of_getElem? e2
          refine ⟨_, rfl, rfl, _, rfl, iteT ?_⟩
          refine seq_gen (fun σ' H' => ∃ (D : Addr) (sp : List Int), σ' = [some (.ref r.p), some (.ref r.s.p), some (mostV (some lv)), some (mostV g), some (.ref pm), some (.ref nl), v6, some (.ref t), v8, some (.ref q), some (.ref D)] ∧ Same H4 H' ∧ H' D = some (.lst (sp.map V.int)) ∧ ∀ v, v ∈ sp ↔ v ∈ ns ∧ Poss S ws v ∧ Spoken row v) (fun R2 hR2 => ?_) ?_
          · have nl4 := k4 _ _ nl3
            refine ⟨_, rfl, nl, rfl, ⟨_, SqL.of nl4⟩, fun D hD => lc_list (K := K) (a := nl) (xs := ns.map V.int) (fun i H' => Same H4 H' ∧ ∃ sp : List Int, H' D = some (.lst (sp.map V.int)) ∧ sp.length ≤ i ∧ ∀ v, v ∈ sp ↔ v ∈ ns.take i ∧ Poss S ws v ∧ Spoken row v)
              ⟨same_upd _ hD, [], upd_same, Nat.le_refl _, fun v => by simp⟩ (fun i H' _ k => SqL.of (k.1 _ _ nl4)) ?_ ?_⟩
            · rintro i x H5 hx ⟨k5, sp, p1, p2, p3⟩
              rw [List.getElem?_map] at hx
              obtain ⟨v, hv, rfl⟩ := Option.map_eq_some_iff.mp hx
              have hvm : v ∈ ns := List.mem_of_getElem? hv
              have hil := (List.getElem?_eq_some_iff.mp hv).1
              have nle := N2.ln
              have rd5 := rd4.same k5
              rw [take_snoc hv]
              have no : ¬ (Poss S ws v ∧ Spoken row v) → ∀ x, x ∈ sp ↔ x ∈ ns.take i ++ [v] ∧ Poss S ws x ∧ Spoken row x := fun h x => by
                rw [p3 x, List.mem_append, List.mem_singleton]
                constructor
                · rintro ⟨a1, a2⟩
                  exact ⟨.inl a1, a2⟩
                · rintro ⟨a1 | rfl, a2⟩
                  · exact ⟨a1, a2⟩
                  · exact absurd a2 h
              refine ⟨rfl, _, rfl, r.p, r.dx, _, rfl, rd5.ob, rfl, _, rfl, r, S, ws, v, rfl, rd5, ok, hw6, N2.hi v hvm, fun b H6 s6 hb => ⟨_, rfl, ?_⟩⟩
              cases b with
              | false => exact iteF (iteF ⟨k5.trans s6, sp, s6 _ _ p1, by omega, no fun z => nomatch hb.mpr z.1⟩)
              | true =>
                have ho := (rd5.same s6).sys.me ir q row e1 e2
                refine iteT ⟨_, rfl, _, rfl, q, row, v, rfl, ho, _, rfl, ?_⟩
                cases hsb : spokenB row v with
                | false =>
                  refine iteF ⟨k5.trans s6, sp, s6 _ _ p1, by omega, no fun z => ?_⟩
                  have := spokenB_iff.mpr z.2
                  rw [hsb] at this
                  cases this
                | true =>
                  refine iteT ⟨_, rfl, _, s6 _ _ p1, by rw [List.length_map]; exact small_len (by omega), same_add (k5.trans s6) hD, sp ++ [v], by rw [upd_same, List.map_append]; rfl, by rw [List.length_append, List.length_singleton]; omega, fun x => ?_⟩
                  rw [List.mem_append, List.mem_singleton, p3 x, List.mem_append, List.mem_singleton]
                  constructor
                  · rintro (⟨a1, a2⟩ | rfl)
                    · exact ⟨.inl a1, a2⟩
                    · exact ⟨.inr rfl, hb.mp rfl, spokenB_iff.mp hsb⟩
                  · rintro ⟨a1 | rfl, a2⟩
                    · exact .inl ⟨a1, a2⟩
                    · exact .inr rfl
            · rintro H5 ⟨k5, sp, p1, p2, p3⟩
              rw [List.length_map, List.take_length] at p3
              exact hR2 _ _ ⟨D, sp, rfl, k5, p1, p3⟩
          rintro σ' H5 ⟨D, sp, rfl, k5, p1, p3⟩
          have rd5 := rd4.same k5
          have ho := rd5.sys.me ir q row e1 e2
          refine seq_gen (fun σ' H' => σ' = [some (.ref r.p), some (.ref r.s.p), some (mostV (some lv)), some (mostV g), some (.ref pm), some (.ref nl), v6, some (.ref t), v8, some (.ref q), some (.ref D)] ∧ H5 = H') (fun R2 hR2 => ?_) ?_
          · have second : ∀ (A B : Hp → Prop), B H5 → (if false = true then A H5 else B H5) := fun _ _ h => iteF h
            cases g with
            | none =>
              refine ⟨_, rfl, !(sp.map V.int).isEmpty, .inl ⟨_, SqL.of p1, rfl⟩, ?_⟩
              cases sp with
              | nil => exact iteF (iteF ⟨_, rfl, rfl, _, rfl, iteF (iteF (hR2 _ _ ⟨rfl, rfl⟩))⟩)
              | cons y sp => exact iteT ⟨_, rfl, rfl, _, rfl, iteF ⟨_, rfl, rfl, _, rfl, iteF (iteF (hR2 _ _ ⟨rfl, rfl⟩))⟩⟩
            | some x =>
              have hns : spokenB row x = false := by
                cases e : spokenB row x with
                | false => rfl
                | true => exact absurd (spokenB_iff.mp e) (great_not hg hrow e3)
              refine ⟨_, rfl, !(sp.map V.int).isEmpty, .inl ⟨_, SqL.of p1, rfl⟩, ?_⟩
              cases sp with
              | nil =>
                refine iteF (iteF ⟨_, rfl, rfl, _, rfl, iteT ⟨_, rfl, _, rfl, q, row, x, rfl, ho, _, rfl, ?_⟩⟩)
                rw [hns]
                exact iteF (hR2 _ _ ⟨rfl, rfl⟩)
              | cons y sp =>
                have hy := (p3 y).mp List.mem_cons_self
                have := great_spoken ok hg hrow e3 hy.2.1 hy.2.2
                cases this
          rintro σ' H' ⟨rfl, rfl⟩
          cases g with
          | some x => exact ⟨_, rfl, rfl, _, rfl, iteF (iteF (hR _ _ ⟨_, _, rfl, k5⟩))⟩
          | none =>
            refine ⟨_, rfl, rfl, _, rfl, iteT ⟨_, rfl, !(sp.map V.int).isEmpty, .inl ⟨_, SqL.of p1, rfl⟩, ?_⟩⟩
            cases sp with
            | cons y sp => exact iteF (iteF (hR _ _ ⟨_, _, rfl, k5⟩))
            | nil =>
              have hno : ∀ v, 1 ≤ v → v < 60 → Poss S ws v → ¬ Spoken row v := fun v h1 h2 hp hs => nomatch (p3 v).mpr ⟨N2.lo v h1 h2, hp, hs⟩
              have pm5 := k5 _ _ (k4 _ _ pm3)
              refine iteT ⟨_, rfl, _, rfl, !(ms.map V.int).isEmpty, .inr (.inl ⟨_, SqT.of pm5, rfl⟩), ?_⟩
              rcases List.eq_nil_or_concat ms with hm0 | ⟨init, M, hm0⟩
              · subst hm0
                refine iteF ⟨_, _, rfl, rfl, ⟨by decide, by decide, by decide⟩, q, row, _, rfl, ho, _, rfl, ?_⟩
                have : spokenB row ((10 : Int) ^ (30 : Int).toNat) = true := spokenB_iff.mpr (sp_low (by decide) e3)
                rw [this]
                exact iteF (hR _ _ ⟨_, _, rfl, k5⟩)
              · have hm1 : ms = init ++ [M] := by rw [hm0, List.concat_eq_append]
                subst hm1
                have hne' : (!((init ++ [M]).map V.int).isEmpty) = true := by
                  cases init <;> rfl
                rw [hne']
                have hM := (so.2 M).mp (by simp)
                have hmax : ∀ n, Der S n ws → n ≤ M := fun n d => by
                  rcases List.mem_append.mp ((so.2 n).mpr d) with z | z
                  · have := (List.pairwise_append.mp so.1).2.2 n z M (by simp)
                    omega
                  · rw [List.mem_singleton.mp z]
                    exact Int.le_refl _
                have hat : atI ((init ++ [M]).map V.int) (-1) = some (.int M) := by
                  rw [List.map_append]
                  exact atI_last _ _
                refine iteT ⟨_, rfl, _, rfl, pm, _, -1, .int M, rfl, rfl, SqT.of pm5, hat, q, row, M, rfl, ho, _, rfl, ?_⟩
                rw [spokenB_iff.mpr (great_none ok hg hrow e3 hno hM hmax)]
                exact iteF (hR _ _ ⟨_, _, rfl, k5⟩)
        · exact ⟨_, rfl, rfl, _, rfl, iteF (hR _ _ ⟨_, _, rfl, .refl _⟩)⟩
    clear v6
    rintro σ' H5 ⟨v6, v10, rfl, k5⟩
    have k35 := k4.trans k5
    refine seq_gen (fun σ' H' => σ' = [some (.ref r.p), some (.ref r.s.p), some (mostV l), some (mostV g), some (.ref pm), some (.ref nl), v6, some (.ref t), v8, some vr, v10] ∧ H5 = H') (fun R hR => ?_) ?_
    · rcases hvr with ⟨ir, q, row, rfl, e1, e2, e3⟩ | ⟨rfl, hno⟩
      · exact ⟨_, rfl, rfl, _, rfl, iteF (iteF (hR _ _ ⟨rfl, rfl⟩))⟩
      · refine ⟨_, rfl, rfl, _, rfl, iteT ?_⟩
        cases l with
        | none => exact ⟨_, rfl, rfl, _, rfl, iteF (iteF (hR _ _ ⟨rfl, rfl⟩))⟩
        | some lv =>
          have := great_some ok hg hl hno (fun e => nomatch e)
          cases g with
          | none => exact absurd rfl this
          | some x => exact ⟨_, rfl, rfl, _, rfl, iteT ⟨_, rfl, rfl, _, rfl, iteF (hR _ _ ⟨rfl, rfl⟩)⟩⟩
    rintro σ' H' ⟨rfl, rfl⟩
    exact ⟨_, rfl, t, _, 1, .ref wl, rfl, rfl, SqT.of (k35 _ _ ht3), rfl, k wl wds H5 (kH.trans (.of_same k35)) (rd3.same k35) (k35 _ _ wl3) hwds hw8⟩
end
end K30
set_option Elab.async false
set_option linter.all false
set_option maxRecDepth 100000
set_option maxHeartbeats 4000000
/-! K30Set: set(xs) of a list of texts, and sorted() of it. -/
namespace K30
open PySem PySem.Spec PyProof.Rows L2
open PySem.Froz (SD sObj TxOk addTx tailTx add_ok add_x)
/-- a set's payload that can be walked -/
def Walkable (w : World) (D : SD) : Prop := Ris D.2.2.place.toList ∧ (w.params.followText "set-order" = true ∨ D.2.2.led = true)
/-- at a stands a set of exactly the texts l, each once -/
def TxAt (P : Program) (w : World) (h : Heap) (a : Addr) (l : List Str) : Prop := ∃ D, h.get? a = some (sObj "set" D) ∧ TxOk P w D l ∧ l.Nodup ∧ Walkable w D
theorem walk_tail {w : World} {ep : Nat} {es : Array (Int × Value)} {t : SetTable} {b : Bool} (h : Walkable w (es, ep, t)) : Walkable w (tailTx ep es t b) := by
  unfold tailTx
  split
  · exact ⟨relayAll_ris _ _ _, h.2.imp id fun z => (relayAll_led _ _ _).trans z⟩
  · exact h
theorem walk_add {w : World} {D : SD} (i : Int) (v : Value) (h : Walkable w D) : Walkable w (addTx i v D) := by
  obtain ⟨es, ep, t⟩ := D
  have h1 := layNew_ris t es i v h.1
  have h2 : w.params.followText "set-order" = true ∨ (layNew t es i v).2.1.led = true := h.2.imp id fun z => (layNew_led t es i v).trans z
  unfold addTx
  refine walk_tail ?_
  dsimp only
  split <;> exact ⟨h1, h2⟩
theorem TxAt.at {P : Program} {w : World} {h h' : Heap} {a : Addr} {l : List Str} (r : TxAt P w h a l) (k : ∀ o, h.get? a = some o → h'.get? a = some o) : TxAt P w h' a l := by
  obtain ⟨D, h1, h2⟩ := r
  exact ⟨D, k _ h1, h2⟩
/-- a set that was made just now -/
abbrev newS (w : World) : Obj := { cls := .type "set", dict := none, data := .set #[] 0 (.fresh 0 0 (!w.params.followText "set-order")) }
theorem txAt_new {P : Program} {w : World} {h : Heap} {a : Addr} (e : h.get? a = some (newS w)) : TxAt P w h a [] := by
  refine ⟨(#[], 0, .fresh 0 0 (!w.params.followText "set-order")), e, .nil rfl, List.nodup_nil, List.Pairwise.nil, ?_⟩
  show _ ∨ (!w.params.followText "set-order") = true
  cases w.params.followText "set-order"
  · exact .inr rfl
  · exact .inl rfl
def put1 (l : List Str) (k : Str) : List Str := if k ∈ l then l else k :: l
theorem put1_mem (l : List Str) (k x : Str) : x ∈ put1 l k ↔ x ∈ l ∨ x = k := by
  unfold put1
  split
  · rename_i h
    exact ⟨.inl, fun z => z.elim id fun e => e ▸ h⟩
  · rw [List.mem_cons]
    exact Or.comm
theorem put1_len (l : List Str) (k : Str) : (put1 l k).length ≤ l.length + 1 := by
  unfold put1
  split
  · exact Nat.le_succ _
  · exact Nat.le_refl _
section
variable {P : Program} {w : World} {A : Around} {E : Value → Shared → Prop} {s : Shared}
theorem txAt_add {a : Addr} {l : List Str} {k : Str} {u : Tok} {Q : Bool → Shared → Prop} (R : TxAt P w s.heap a l) (hb : l.length + 1 < scanBound)
    (h : ∀ b h', (∀ c, c ≠ a → h'.get? c = s.heap.get? c) → TxAt P w h' a (put1 l k) → Q b { s with heap := h' }) : wpAny (model P w) A (setAddHashed a (.str k u) (hashStr w k)) Q E s := by
  obtain ⟨D, ho, F, nd, wk⟩ := R
  by_cases hk : k ∈ l
  · have e : put1 l k = l := if_pos hk
    obtain ⟨es, ep, t⟩ := D
    have hd : (sObj "set" (es, ep, t)).data = .set es ep t := rfl
    have hel : ElemsOf (strKind P w) es.toList := F.el
    have hz : es.size < scanBound := by
      have := F.sz
      dsimp only at this
      omega
    unfold setAddHashed setAddHashedIn
    refine wpAny_holding (wpAny_bind (wpAny_setState_of ho hd F.fit ?_))
    dsimp only
    rw [byScan_of rfl hz hel]
    simp only [↓reduceIte]
    unfold setAddByScan
    refine wpAny_bind (wpAny_bind (wpAny_rule (wpAny_bind (wpAny_setScan_of (knd := strKind P w) (k := k) (strKind_is P w k u) ho hd F.fit hel ?_))))
    cases hf : List.findIdx? (fun e => (strKind P w).is k e.2) es.toList with
    | none =>
      obtain ⟨e, he, q⟩ := (F.mem k).mp hk
      have c := List.findIdx?_eq_none_iff.mp hf e he
      rw [q] at c
      cases c
    | some j => exact wpAny_pure (wpAny_pure (h _ s.heap (fun _ _ => rfl) (by rw [e]; exact ⟨_, ho, F, nd, wk⟩)))
  · refine add_x ho F hk hb (h _ _ (fun c hc => Heap.get?_update_other _ _ (Ne.symm hc)) ?_)
    have e : put1 l k = k :: l := if_neg hk
    rw [e]
    exact ⟨_, PySem.Froz.get_upd _ ho rfl, add_ok u F, List.nodup_cons.mpr ⟨hk, nd⟩, walk_add _ _ wk⟩
/-- what the set holds behind i texts of xs -/
structure GotT (xs : List Str) (i : Nat) (l : List Str) : Prop where
  mem : ∀ x, x ∈ l ↔ x ∈ xs.take i
  len : l.length ≤ i
theorem GotT.next {xs l : List Str} {i : Nat} {x : Str} (g : GotT xs i l) (h : xs[i]? = some x) : GotT xs (i + 1) (put1 l x) := by
  refine ⟨fun y => ?_, Nat.le_trans (put1_len l x) (Nat.succ_le_succ g.len)⟩
  rw [put1_mem, g.mem, List.take_add_one, h]
  simp
theorem upd_loop {I : Addr} {fp wr : List Addr} {G : Array GenState → Array GenState → Prop} {n : Nat} {Pv : Nat → Value → Prop} {St : Nat → Shared → Prop} {R : Result → Shared → Prop}
    (W : WalksS P w A.in1 I fp wr G n Pv St) (a : Addr) (ha : a ∉ fp) (xs : List Str) (hn : n = xs.length) (hb : xs.length + 1 < scanBound) (hv : ∀ i v, Pv i v → ∃ k t, xs[i]? = some k ∧ v = .str k t) :
    ∀ (left i : Nat) (s : Shared) (l : List Str), i + left = n → St i s → TxAt P w s.heap a l → GotT xs i l →
      (∀ s' l', Moved (a :: wr) G s s' → GotT xs n l' → TxAt P w s'.heap a l' → R (.ok (.ret .none)) s') → codeAny (model P w) A (.builtin "set.update.loop" ⟨[.ref a, .ref I], []⟩) R s := by
  have haw : a ∉ wr := fun z => ha (W.sub _ z)
  have more : ∀ {u u' : Shared}, Moved wr G u u' → Moved (a :: wr) G u u' := fun m => m.mono fun b hb => List.mem_cons_of_mem _ hb
  intro left
  induction left with
  | zero =>
    intro i s l e hst ht g k
    obtain rfl : i = n := e
    refine codeAny_builtin F.entry_set_update_loop ?_
    rw [Around.under_plainId F.plain_set_update_loop _]
    show wpAny _ A.in1 (pyNext (.ref I) >>= _) _ _ s
    refine wpAny_bind (W.done s _ _ hst fun s' m => ?_)
    exact wpAny_pure (k s' l (more m) g (ht.at fun o e => m.heap a o haw e))
  | succ left ih =>
    intro i s l e hst ht g k
    refine codeAny_builtin F.entry_set_update_loop ?_
    rw [Around.under_plainId F.plain_set_update_loop _]
    show wpAny _ A.in1 (pyNext (.ref I) >>= _) _ _ s
    refine wpAny_bind (W.item i s _ _ (by omega) hst fun v s1 hp hst1 m => ?_)
    obtain ⟨x, t, hx, rfl⟩ := hv i v hp
    have ht1 : TxAt P w s1.heap a l := ht.at fun o e => m.heap a o haw e
    show wpAny _ A.in1 (holding [Value.str x t] (setAdd a (.str x t)) >>= _) _ _ s1
    unfold setAdd
    refine wpAny_bind (wpAny_holding (wpAny_holding (wpAny_bind ((strKind P w).pyHash (strKind_is P w x t) ?_))))
    have hl : l.length + 1 < scanBound := by
      have := g.len
      omega
    refine txAt_add (s := { s1 with toks := s1.toks + 1 }) ht1 hl fun _ h' sb ht2 => ?_
    refine wpAny_pure ⟨plainId_quiet F.plain_set_update_loop _, ih (i + 1) _ _ (by omega) (W.frame _ s1 _ _ hst1 (Nat.le_succ _) fun b hb o e => ?_) ht2 (g.next hx) fun s2 l2 m2 g2 ht3 => k s2 l2 ?_ g2 ht3⟩
    · exact (sb b fun z => ha (z ▸ hb)).trans e
    · refine Moved.trans W.gtrans ((more m).then_heap (Nat.le_succ _) fun b o hb e => ?_) m2
      exact (sb b fun z => hb (z ▸ List.mem_cons_self)).trans e
/-- what a call of set(xs) leaves -/
def SetMade (P : Program) (w : World) (s : Shared) (xs : List Str) (s' : Shared) : Prop :=
  ∃ h' tk ys, s' = { s with heap := h', toks := tk } ∧ TxAt P w h' s.heap.objs.size ys ∧ (∀ x, x ∈ ys ↔ x ∈ xs) ∧ ∀ b o, s.heap.get? b = some o → h'.get? b = some o
/-- the set's __init__ over a list of texts, the set made just now -/
theorem init_strs {l : Addr} {items : Array Value} (xs : List Str) (hh : A.handled = none) (hl : s.heap.IsList l items) (hi : StrsAre items.toList xs) (hb : xs.length + 1 < scanBound) :
    codeAny (model P w) A (.call (.builtin "set.__init__") ⟨[.ref s.heap.objs.size, .ref l], []⟩) (wants (fun r s' => r = .none ∧ SetMade P w s xs s') E) { s with heap := s.heap.push (newS w) } := by
  have hS : (s.heap.push (newS w)).get? s.heap.objs.size = some (newS w) := Heap.get?_push_size _ rfl
  have hT : Shared.TypeIs { s with heap := s.heap.push (newS w) } (.ref s.heap.objs.size) "set" := ⟨_, hS, rfl⟩
  refine codeAny_call_builtin F.called_set.init.plain F.entry_set_init (check_set_init_1 hT ?_)
  have hsz : items.size = xs.length := by rw [← Array.length_toList]; exact hi.len_eq
  obtain ⟨⟨cls, dd, data, sl⟩, ol, hc, n, hd⟩ := hl
  dsimp only at hc hd
  subst hc hd
  have hlt : l < s.heap.objs.size := Heap.lt_size ol
  have hol : (s.heap.push (newS w)).get? l = some { cls := .type "list", dict := dd, data := .seq items n, slots := sl } := Heap.get?_push_of_some _ ol
  have hl1 : (s.heap.push (newS w)).IsList l items := ⟨_, hol, rfl, n, rfl⟩
  have hz : (s.heap.push (newS w)).objs.size = s.heap.objs.size + 1 := Heap.size_push ..
  have h1 := F.sub_list_set
  have h2 := F.sub_list_frozenset
  have h3 : (Value.type "list" == Value.type "dict") = false := by decide
  unfold Builtin.«set.__init__» noKeywords Builtin.Frozenset.updateFrom
  generalize hPI : pyIter = PI
  wp_walk
  subst hPI
  refine wpAny_pyIter_list hl1 (wpAny_bind (wpAny_runValue ?_))
  have hlI : l ≠ (s.heap.push (newS w)).objs.size := by
    rw [hz]
    exact Nat.ne_of_lt (Nat.lt_succ_of_lt hlt)
  have hnf : s.heap.objs.size ∉ [(s.heap.push (newS w)).objs.size, l] := by
    rw [hz]
    simp only [List.mem_cons, List.not_mem_nil, or_false, not_or]
    exact ⟨Nat.ne_of_lt (Nat.lt_succ_self _), Nat.ne_of_gt hlt⟩
  refine upd_loop (Walks.list (by simp [hh]) _ l hlI items).toS s.heap.objs.size hnf xs hsz hb (fun i v hv => ?_) items.size 0 _ [] (by omega) ⟨⟨_, Heap.get?_push_size _ rfl, rfl, rfl⟩, hl1.push _⟩
    (txAt_new (Heap.get?_push_of_some _ hS)) ⟨fun x => by simp, Nat.le_refl _⟩ fun s' ys m g ht => ?_
  · obtain ⟨y, t, e1, e2⟩ := hi.item i v (by rw [Array.getElem?_toList]; exact hv)
    exact ⟨y, t, e2, e1⟩
  · obtain ⟨h', g', d', tk', os'⟩ := s'
    have eg : g' = s.gens := m.gens
    have ed : d' = s.drawn := m.drawn
    have eo : os' = s.os := m.os
    subst eg ed eo
    refine wpAny_pure ?_
    refine wpAny_pure ⟨rfl, h', tk', ys, rfl, ht, fun x => ?_, fun b o e => ?_⟩
    · rw [g.mem, hsz, List.take_length]
    · have hb := Heap.lt_size e
      exact m.heap b o (by rw [hz]; simp only [List.mem_cons, List.not_mem_nil, or_false, not_or]; exact ⟨Nat.ne_of_lt hb, Nat.ne_of_lt (Nat.lt_succ_of_lt hb)⟩) (Heap.get?_push_of_some _ (Heap.get?_push_of_some _ e))
/-- set(xs) of a list of texts -/
theorem call_strSet {l : Addr} {items : Array Value} (xs : List Str) {Q : Value → Shared → Prop} (hh : A.handled = none) (hl : s.heap.IsList l items) (hi : StrsAre items.toList xs) (hb : xs.length + 1 < scanBound)
    (h : ∀ s', SetMade P w s xs s' → Q (.ref s.heap.objs.size) s') : wpAny (model P w) A (call (.type "set") [.ref l]) Q E s := by
  obtain ⟨c, tl, hmro⟩ := F.called_set.mro
  have hmade := F.called_set.made
  have hsub := F.called_set.sub
  refine wpAny_call (codeAny_of_tree ?_)
  show wpAny _ _ (callAny (.type "set") _) _ _ _
  refine wpAny_pure ⟨Code.quiet_builtin _ (by decide +kernel), codeAny_builtin F.entry_type_call ?_⟩
  rw [Around.under_plain (weight_type_call_type "set" [.ref l] []) rfl]
  have h1 := F.called_set.notType
  have h2 := F.called_set.canCreate
  have h3 := F.typeCall_set_1 (.ref l)
  repeat (any_goals (first | assumption | wp_step))
  refine codeAny_mono (code_set_led1 (.ref l) (E := E) (Q₁ := fun v s1 => v = .ref s.heap.objs.size ∧ s1 = { s with heap := s.heap.push (newS w) }) ⟨rfl, rfl⟩) fun r s1 hr => ?_
  rcases r with e | f
  · exact hr
  · cases f with
    | ret v =>
      obtain ⟨rfl, rfl⟩ := hr
      have hT : Shared.TypeIs { s with heap := s.heap.push (newS w) } (.ref s.heap.objs.size) "set" := ⟨_, Heap.get?_push_size _ rfl, rfl⟩
      have h4 := F.called_set.init.lookup
      have h5 := F.called_set.init.bind (.ref s.heap.objs.size)
      repeat (any_goals (first | assumption | wp_step))
      refine codeAny_mono (init_strs (s := s) (E := E) xs (by simpa using hh) hl hi hb) fun r2 s2 h6 => ?_
      rcases r2 with e | f
      · exact h6
      · cases f with
        | ret r =>
          obtain ⟨rfl, h7⟩ := h6
          repeat (any_goals (first | assumption | wp_step))
          exact h _ h7
        | _ => exact h6.elim
    | _ => exact hr.elim
theorem perm_sub : ∀ {l zs : List Str}, l.Nodup → (∀ x ∈ l, x ∈ zs) → zs.length = l.length → zs.Perm l
  | [], zs, _, _, h => by
    rw [List.eq_nil_of_length_eq_zero h]
  | x :: l, zs, nd, hs, h => by
    obtain ⟨h1, h2⟩ := List.nodup_cons.mp nd
    have hx := hs x List.mem_cons_self
    refine (List.perm_cons_erase hx).trans (.cons x (perm_sub h2 (fun y hy => ?_) ?_))
    · exact (List.mem_erase_of_ne (fun e : y = x => h1 (e ▸ hy))).mpr (hs y (List.mem_cons_of_mem _ hy))
    · rw [List.length_erase_of_mem hx, h]
      rfl
def txtOf (v : Value) : Str := match v with
  | .str k _ => k
  | _ => Str.empty
theorem txts_are : ∀ {vs : List Value}, (∀ v ∈ vs, ∃ k t, v = Value.str k t) → StrsAre vs (vs.map txtOf)
  | [], _ => .nil
  | v :: vs, h => by
    obtain ⟨k, t, rfl⟩ := h v List.mem_cons_self
    exact .cons k t (txts_are fun u hu => h u (List.mem_cons_of_mem _ hu))
theorem sets_out {es : Array (Int × Value)} {ep : Nat} {t : SetTable} {l : List Str} {vs : List Value} (F : TxOk P w (es, ep, t) l) (nd : l.Nodup) (pm : vs.Perm (es.toList.map (·.2))) : ∃ zs, StrsAre vs zs ∧ zs.Perm l := by
  refine ⟨vs.map txtOf, txts_are fun v hv => ?_, perm_sub nd (fun x hx => ?_) ?_⟩
  · obtain ⟨e, he, rfl⟩ := List.mem_map.mp (pm.mem_iff.mp hv)
    obtain ⟨⟨k, hk, _⟩, _⟩ := F.el e he
    obtain ⟨t, ht⟩ := Value.isStrOf_shape hk
    exact ⟨k, t, ht⟩
  · obtain ⟨e, he, hk⟩ := (F.mem x).mp hx
    obtain ⟨t, ht⟩ := Value.isStrOf_shape hk
    exact List.mem_map.mpr ⟨e.2, pm.mem_iff.mpr (List.mem_map.mpr ⟨e, he, rfl⟩), by rw [ht]; rfl⟩
  · rw [List.length_map, pm.length_eq, List.length_map, Array.length_toList]
    exact F.sz
/-- sorted() of a set of fewer than 64 texts -/
theorem sorted_strSet {a : Addr} {l : List Str} {Q : Value → Shared → Prop} (R : TxAt P w s.heap a l) (hh : A.handled = none) (h64 : l.length < 64)
    (h : ∀ s' p (out : List Value) c (ys : List Str), (∀ b o, s.heap.get? b = some o → s'.heap.get? b = some o) → s'.gens = s.gens → s'.os = s.os → s.heap.objs.size ≤ p → s'.heap.get? p = some (seqObj "list" out.toArray c) →
      StrsAre out ys → ys.Perm l → Q (.ref p) s') : wpAny (model P w) A (call (.builtin "sorted") [.ref a]) Q E s := by
  obtain ⟨⟨es, ep, t⟩, ho, F, nd, wk⟩ := R
  have hz : es.size = l.length := F.sz
  have hs : es.size < scanBound := by
    rw [hz]
    unfold scanBound
    omega
  refine Calls.call_function_entry kind_sorted plain_sorted entry_sorted (args_sorted1 _) ?_
  unfold Builtin.«sorted»
  refine wpAny_bind (m := checkCount "sorted" 1 1 _) (wpAny_pure ?_)
  refine wpAny_bind (collect_set (A := A.in1) (es := es) (ep := ep) (t := t) hh ⟨_, ho, rfl, rfl⟩ F.fit hs wk.1 wk.2 fun s1 vs k1 kz g1 o1 pm => ?_)
  have hv : vs.length = l.length := by rw [pm.length_eq, List.length_map, Array.length_toList, hz]
  obtain ⟨zs, hS, hm⟩ : ∃ zs, StrsAre vs zs ∧ zs.Perm l := sets_out F nd pm
  refine wpAny_bind (wpAny_newList ?_ (by rw [hv, sizeLine_eq]; omega))
  have hL : (s1.heap.push (seqObj "list" vs.toArray 0)).get? s1.heap.objs.size = some (seqObj "list" vs.toArray 0) := Heap.get?_push_size _ rfl
  refine wpAny_bind (wpAny_holding (wpAny_call_entry slot_list_sort ⟨_, hL, rfl⟩ entry_list_sort
    (list_sort_treeK strKind_oneLt (s := { s1 with heap := s1.heap.push (seqObj "list" vs.toArray 0) }) hL hS.keysOf (fun v₁ v₂ rest e => keyKind_strs (by rw [← e]; exact hS)) (by rw [hv]; exact h64) fun st' hp hs => ⟨_, rfl, ?_⟩) (args_list_sort _)))
  obtain ⟨ys, y1, y2, y3⟩ := sorted_out_str hS hp hs
  obtain ⟨c, hc⟩ := sortedHeap_at (vs := vs) (out := (arrOf st').map (·.2)) hL
  refine wpAny_pure ⟨_, rfl, h _ s1.heap.objs.size ((arrOf st').map (·.2)).toList c ys (fun b o e => ?_) g1 o1 kz (by rw [Array.toArray_toList]; exact hc) y1 (y2.trans hm)⟩
  have hb := Heap.lt_size (k1 b o e)
  exact (sortedHeap_old (Nat.ne_of_lt hb) (by rw [size_push']; exact Nat.lt_succ_of_lt hb)).trans (Heap.get?_push_of_some _ (k1 b o e))
end
section
variable {X : Cx}
/-- a set of texts -/
def SetTO (P : Program) (w : World) (a : Addr) (l : List Str) : HO := .ext fun h => TxAt P w h a l
def rSetS (K : PySem.W.Frag) (P : Program) (w : World) : List V → Hp → VK → Prop := fun xs H Q => ∃ (l : Addr) (ts : List Str), xs = [V.ref l] ∧ SqL K H l (ts.map V.str) ∧ ts.length + 1 < scanBound ∧
  ∀ (a : Addr) (ys : List Str), (∀ x, x ∈ ys ↔ x ∈ ts) → ys.Nodup → H a = none → Q (.ref a) (upd H a (SetTO P w a ys))
theorem cr_setS (hc : X.calm = true) : CallR X (.type "set") (rSetS X.K X.prog X.w) := by
  intro pins s σ H xs us Q I r h
  obtain ⟨l, ts, rfl, hq, hb, q⟩ := h
  rw [Vals.ref1 r]
  obtain ⟨its, rv, pl, hz⟩ := I.list hq
  refine call_strSet ts (I.ok.hd hc) pl.isList (by simpa using rv.strs) hb ?_
  rintro s' ⟨h', tk, ys, rfl, R, hm, k⟩
  have nd : ys.Nodup := R.elim fun _ z => z.2.2.1
  have he : ∃ u, h'.get? s.heap.objs.size = some u := R.elim fun _ z => ⟨_, z.1⟩
  exact ⟨.ref s.heap.objs.size, upd H s.heap.objs.size (SetTO X.prog X.w s.heap.objs.size ys), I.laid (t' := tk) k (Nat.le_refl _) ⟨R, he, fun h1 h2 p z => TxAt.at p z⟩, rfl, q _ ys hm nd (I.hok.fresh (Nat.le_refl _))⟩
def rSortedS (P : Program) (w : World) : List V → Hp → VK → Prop := fun xs H Q => ∃ (a : Addr) (l : List Str), xs = [V.ref a] ∧ H a = some (SetTO P w a l) ∧ l.length < 64 ∧
  ∀ (p : Addr) (ys : List Str), (∀ x, x ∈ ys ↔ x ∈ l) → ys.length = l.length → H p = none → Q (.ref p) (upd H p (.lst (ys.map V.str)))
theorem cr_sortedS (hc : X.calm = true) : CallR X (.builtin "sorted") (rSortedS X.prog X.w) := by
  intro pins s σ H xs us Q I r h
  obtain ⟨a, l, rfl, ha, h64, q⟩ := h
  rw [Vals.ref1 r]
  have R : TxAt X.prog X.w s.heap a l := (I.hok a _ ha).1
  refine sorted_strSet R (I.ok.hd hc) h64 fun s' p out c ys k g o hp hg hS pm => ?_
  have hlen : (ys.map V.str).length ≤ sizeLine := by
    rw [List.length_map, pm.length_eq, sizeLine_eq]
    omega
  have hn : H p = none := I.hok.fresh hp
  have J : Inv X pins σ (upd H p (.lst (ys.map V.str))) { s with heap := s'.heap, gens := s'.gens, drawn := s'.drawn, toks := s'.toks } :=
    I.call (ch := []) (Un.laid k hp hn) (I.hok.laid k hp ⟨hlen, out, c, vals_of_strs hS, hg⟩) (by rw [g]; exact I.bare) (fun _ z => nomatch z)
  have e : s' = { s with heap := s'.heap, gens := s'.gens, drawn := s'.drawn, toks := s'.toks } := by
    cases s'
    cases s
    cases o
    rfl
  rw [e]
  exact ⟨.ref p, _, J, rfl, q p ys (fun x => pm.mem_iff) pm.length_eq hn⟩
end
end K30
set_option Elab.async false
set_option linter.all false
set_option maxRecDepth 100000
set_option maxHeartbeats 4000000
/-! K30V: what a number may begin with, asked of the reader. -/
namespace K30
open PySem PySem.Spec PyProof.Rows L2 L2H
open StX (pa_star)
open C8 (pe_gc)
/-- lists, tuples and tables that stand before stand after -/
structure Stay (H H' : Hp) : Prop where
  lst : ∀ b xs, H b = some (.lst xs) → H' b = some (.lst xs)
  tup : ∀ b xs, H b = some (.tup xs) → H' b = some (.tup xs)
  dic : ∀ b kvs, H b = some (.dK kvs) → H' b = some (.dK kvs)
theorem RdAt.stay {a : Ad} {H H' : Hp} {r : RA} {S : SyS} {ws : List Str} {D D' : Nat → Nat → Prop} (h : RdAt a H r S ws D) (h' : RdAt a H' r S ws D') (k : Kp [r.la, r.va] H H') : Stay H H' := by
  obtain ⟨kvs, ek, _⟩ := h.va
  have out : ∀ {b : Addr} {o : HO}, H b = some o → b ≠ r.la → b ≠ r.va → H' b = some o := fun e h1 h2 => k _ _ e (by simp [h1, h2])
  refine ⟨fun b xs e => ?_, fun b xs e => ?_, fun b kvs2 e => ?_⟩
  · by_cases hb : b = r.la
    · subst hb
      have h1 := h.la
      rw [e] at h1
      rw [h1]
      exact h'.la
    · exact out e hb (ne_of e ek (fun e => nomatch e))
  · exact out e (ne_of e h.la (fun e => nomatch e)) (ne_of e ek (fun e => nomatch e))
  · exact out e (ne_of e h.la (fun e => nomatch e)) (ne_of e ek (fun e => nomatch e))
theorem RowsAt.stay {H H' : Hp} {la lb : Addr} {ps ms : List Addr} {S : SyS} (h : RowsAt H la lb ps ms S) (k : Stay H H') : RowsAt H' la lb ps ms S :=
  ⟨k.lst _ _ h.l1, h.pl, fun i q e a b => k.tup _ _ (h.pe i q e a b), k.lst _ _ h.l2, h.ml, fun i q e a b => k.tup _ _ (h.me i q e a b)⟩
theorem kp_new {M : List Addr} {H H1 H2 : Hp} {kd : Addr} (h0 : H kd = none) (k : Kp M H H1) (k2 : Kp [kd] H1 H2) : Kp M H H2 := fun b o e hb => k2 b o (k b o e hb) (by simpa using ne_of_none e h0)
theorem alive {a : Ad} {H H' : Hp} {r : RA} {S : SyS} {ws : List Str} {D : Nat → Nat → Prop} (h' : RdAt a H' r S ws D) (k : Kp [r.la, r.va] H H') (hav : ∀ b ∈ r.av, H b ≠ none) : ∀ b ∈ r.av, H' b ≠ none := by
  intro b hb e
  obtain ⟨kvs, ek, _⟩ := h'.va
  cases e2 : H b with
  | none => exact hav b hb e2
  | some o =>
    by_cases hm : b ∈ [r.la, r.va]
    · simp only [List.mem_cons, List.not_mem_nil, or_false] at hm
      rcases hm with rfl | rfl
      · rw [h'.la] at e
        cases e
      · rw [ek] at e
        cases e
    · rw [k b o e2 hm] at e
      cases e
theorem starts_some {S : SyS} (ok : S.Ok) {n : Int} {ws : List Str} (h : ∀ w, w ∈ ws ↔ Starts S n w) : ws.isEmpty = false ↔ Poss S [] n := by
  cases ws with
  | nil =>
    refine ⟨(fun e => nomatch e), fun ⟨p, d⟩ => ?_⟩
    rw [List.nil_append] at d
    obtain ⟨x, q, rfl⟩ := List.exists_cons_of_ne_nil (d.pos ok).2
    exact nomatch (h x).mpr ⟨q, d⟩
  | cons x xs =>
    obtain ⟨q, d⟩ := (h x).mp List.mem_cons_self
    exact ⟨fun _ => ⟨x :: q, d⟩, fun _ => rfl⟩
theorem nodup_le : ∀ {l zs : List Str}, l.Nodup → (∀ x ∈ l, x ∈ zs) → l.length ≤ zs.length
  | [], zs, _, _ => Nat.zero_le _
  | x :: l, zs, nd, hs => by
    obtain ⟨h1, h2⟩ := List.nodup_cons.mp nd
    have hx := hs x List.mem_cons_self
    have := nodup_le h2 (zs := zs.erase x) fun y hy => (List.mem_erase_of_ne (fun e : y = x => h1 (e ▸ hy))).mpr (hs y (List.mem_cons_of_mem _ hy))
    rw [List.length_erase_of_mem hx] at this
    have : 0 < zs.length := List.length_pos_of_mem hx
    show l.length + 1 ≤ _
    omega
theorem KsAt.stay {H H' : Hp} {kd : Addr} {S : SyS} (h : KsAt H kd S) (k : Stay H H') : KsAt H' kd S := by
  obtain ⟨kvs, e1, e2, e3⟩ := h.ex
  refine ⟨kvs, k.dic _ _ e1, e2, fun key v hv => ?_⟩
  obtain ⟨n, ws, l, a1, a2, a3, a4, a5⟩ := e3 key v hv
  exact ⟨n, ws, l, a1, a2, a3, a4, k.lst _ _ a5.1, a5.2⟩
def sp_lBegins (a : Ad) : Sp := fun vs H Q _ => ∃ (t la lb : Addr) (ps ms : List Addr) (r : RA) (S : SyS), vs = [.ref t, .ref r.p] ∧ RdAt a H r S [] (Full []) ∧ S.Ok ∧ WordsOk S ∧ H t = some (.tup [.ref la, .ref lb]) ∧ RowsAt H la lb ps ms S ∧ (∀ b ∈ r.av, H b ≠ none) ∧
  ∀ H', Kp [r.la, r.va] H H' → RdAt a H' r S [] (Full []) → Q (.bl true) H'
def tbBegins (a : Ad) (W : WX) : TS := tDrop (tMethX a.cRd "push" (sp_push a) (WE W) (tVar 1) (tCons (tVar 5) tNil))
section
variable {P : Program} {w : World} {K : PySem.W.Frag} {mg : Str → Option Value} {base : Heap} {a : Ad}
theorem g_lBegins (T : Txt K mg a) (G_push : FnOk P w K mg base (L2N.CX P w) 87 a.f_push a.d_push ["self", "word"] (sp_push a)) (G_pop : FnOk P w K mg base CX0 87 a.f_pop a.d_pop ["self"] (sp_pop a))
    (G_allows : FnG P w K mg base 85 a.f_allows a.d_allows ["self", "value"] (sp_allows a)) (G_lStarts : FnOk P w K mg base CX0 8 a.f_lStarts a.d_lStarts ["_law_rows_here", "_law_number", "_law_known"] (sp_lStarts 6)) (G_lSame : FnG P w K mg base 5 a.f_lSame a.d_lSame ["_law_actual", "_law_due"] (sp_lSame 3)) :
    FnOk P w K mg base CX0 88 a.f_lBegins a.d_lBegins ["_law_rows_here", "_law_reader"] (sp_lBegins a) := by
  refine T.F_lBegins.ok sc_lBegins (fun vs H Q E h => ?_) (fun cdv A outer s H vs Q E hr h => ?_)
  · obtain ⟨t, la, lb, ps, ms, r, S, rfl, _⟩ := h
    rfl
  · obtain ⟨t, la, lb, ps, ms, r, S, rfl, hd, ok, wo, ht, ra, hav, k⟩ := h
    have hu64 : (A.deeper (envOfC "_law_begins_so" (defScope s_lBegins) s.heap.objs.size a.f_lBegins cdv)).units + 64 < cLine := by
      have := hr.un
      omega
    refine ⟨_, (pss_cons (ps_set (i := 2) sc_lBegins.nd rfl (Or.inl rfl) pe_dnewK)
      (pss_cons (psg_for PassesOwn.never (.inl rfl) (pig_range2 (by rfl) T.z_range (pa_cons pe_int (pa_cons pe_int pa_nil))) (pg_name (i := 3) sc_lBegins.nd rfl (.inl rfl))
      (pss_cons (ps_set (i := 4) sc_lBegins.nd rfl (Or.inl rfl) (pe_call G_lStarts (hr.mono (by omega)) (by rfl) T.m_lStarts T.F_lStarts.kp T.b_lStarts .nil pass0 (pa_cons (pv 0) (pa_cons (pv 3) (pa_cons (pv 2) pa_nil)))))
      (pss_cons (ps_if (pt_not (pt_val (peg_call (.inl rfl) G_lSame ((roomH_of hr).mono (by omega)) (by rfl) T.m_lSame T.F_lSame.kp T.b_lSame (pa_cons (peg_meth (.inl rfl) (pv 1) T.cl_cRd T.e_allows G_allows ((roomH_of hr).mono (by omega)) T.b_allows (pa_cons (pv 3) pa_nil)) (pa_cons (pe_cmpR (op_neD hu64) (pv 4) (pe_lst pa_nil) (nomark _)) pa_nil))))) (pss_one (ps_ret pe_bl)) pss_nil)
      (pss_one (psg_for PassesOwn.never (.inl rfl) (pigL K (pe_callB (cr_sortedS rfl) (by rfl) T.z_sorted (by decide +kernel) (pa_cons (pe_callTy (cr_setS rfl) (by rfl) T.z_set (by decide +kernel) (pa_cons (pv 4) pa_nil)) pa_nil))) (pg_name (i := 5) sc_lBegins.nd rfl (.inl rfl))
      (pss_cons (L2N.ps_try_many (tb := tbBegins a) rfl rfl takes_no (fun W pn xe tkW po => (pss_one (ps_expr (pe_methX (pv 1) T.cl_cRd T.e_push G_push (hr.mono (by omega)) T.b_push (fun σ => L2N.passAt tkW σ) (pa_cons (pv 5) pa_nil)))))
      (.cons ⟨by rfl, by decide, .inl T.gNP⟩ (fun ae oe cls d pn2 zn vs => (pss_one (ps_ret pe_bl))) .nil))
      (pss_cons (ps_if (pt_cmpR op_isnot_bl (peg_meth (.inl rfl) (pv 1) T.cl_cRd T.e_allows G_allows ((roomH_of hr).mono (by omega)) T.b_allows (pa_cons (pv 3) pa_nil)) pe_bl (nomark _)) (pss_one (ps_ret pe_bl)) pss_nil)
      (pss_one (ps_expr (pe_meth0 (pv 1) T.cl_cRd T.e_pop G_pop (hr.mono (by omega)) T.b_pop .nil pass0))))))))))
      (pss_one (ps_ret pe_bl)))), ?_⟩
    refine fun kd hkd => ?_
    dsimp only [gName]
    have sk := same_upd (.dK []) hkd
    have rd0 := hd.same sk
    refine ⟨1, 60, rfl, ⟨by omega, by omega, by omega, by omega⟩, ?_⟩
    rw [show ((60 : Int) - 1).toNat = 59 from rfl]
    refine for_range (lo := 1) (n := 59) (fun m σ H' => ∃ (v3 v4 v5 : Option V), σ = [some (.ref t), some (.ref r.p), some (.ref kd), v3, v4, v5] ∧ Kp [r.la, r.va] H H' ∧ RdAt a H' r S [] (Full []) ∧ KsAt H' kd S ∧ RowsAt H' la lb ps ms S ∧ H' t = some (.tup [.ref la, .ref lb]))
      ⟨none, none, none, rfl, .of_same sk, rd0, ⟨[], upd_same, .nil, fun _ _ z => nomatch z⟩, ra.same sk, sk _ _ ht⟩ ?_ ?_
    · rintro m σ H1 hm ⟨v3, v4, v5, rfl, k1, rd1, ks1, ra1, ht1⟩
      have ez : (1 : Int) + (m : Int) = ((m + 1 : Nat) : Int) := by omega
      rw [ez]
      obtain ⟨n, hn⟩ : ∃ n, n = m + 1 := ⟨_, rfl⟩
      rw [← hn]
      refine ⟨_, rfl, _, rfl, _, rfl, t, la, lb, kd, ps, ms, S, n, rfl, ht1, ra1, ok, wo, ks1, by omega, by omega, by omega, fun l ws H2 k2 ks2 st2 => ?_⟩
      obtain ⟨kv1, hk1, _⟩ := ks1.ex
      obtain ⟨kv2, hk2, _⟩ := ks2.ex
      have ntv : kd ≠ r.s.tv := fun e => ne_of_none hd.sys.tv hkd e.symm
      have ntr : kd ≠ r.s.tr := fun e => ne_of_none hd.sys.tr hkd e.symm
      have rd2 := rd1.dicKp k2 hk1 ntv ntr
      have ra2 := ra1.kp k2 hk1
      have kk2 := kp_new hkd k1 k2
      have ht2 : H2 t = some (.tup [.ref la, .ref lb]) := k2 _ _ ht1 (by
        rw [List.mem_singleton]
        intro e
        rw [e, hk1] at ht1
        cases ht1)
      dsimp only [gName]
      refine ⟨_, rfl, r.p, r.dx, _, rfl, rd2.ob, rfl, _, rfl, r, S, [], n, rfl, rd2, ok, by show 0 ≤ 6; omega, by omega, fun bb H3 s3 hb => ⟨_, rfl, z0, fun e he => ne_nil ((same_upd _ he) _ _ (s3 _ _ st2.1)) upd_same (fun w hw => ?_) ⟨_, _, rfl, ?_, fun H4 s4 => ?_⟩⟩⟩
      · obtain ⟨q, d⟩ := (st2.2.2 w).mp hw
        exact wo w (first_in d w q rfl)
      · refine .inl ⟨?_, .inr (.inl ⟨_, rfl⟩)⟩
        have := starts_some ok st2.2.2
        cases ew : ws.isEmpty with
        | true =>
          cases bb with
          | false => rfl
          | true =>
            rw [this.mpr (hb.mp rfl)] at ew
            cases ew
        | false => rw [hb.mpr (this.mp ew)]; rfl
      have s24 := (s3.trans (same_upd _ he)).trans s4
      refine ⟨_, rfl, iteF ?_⟩
      have rd4 := rd2.same s24
      have ks4 := ks2.same s24
      have ra4 := ra2.same s24
      have kk4 := kk2.trans (.of_same s24)
      have st4 : H4 l = some (.lst (ws.map V.str)) := s24 _ _ st2.1
      have ht4 := s24 _ _ ht2
      have hl4 : ws.length + 1 < scanBound := by
        have h1 := st2.2.1
        have h2 := bS_pos n
        unfold scanBound
        omega
      dsimp only [tNext]
      refine ⟨_, rfl, l, ws, rfl, SqL.of st4, hl4, fun sa ys hys nd hsa => ⟨sa, ys, rfl, upd_same, ?_, fun p zs hz hzl hp => ⟨p, rfl, ⟨_, SqL.of upd_same⟩, ?_⟩⟩⟩
      · have h1 := nodup_le nd (zs := allWords S) fun x hx => by
          obtain ⟨q, d⟩ := (st2.2.2 x).mp ((hys x).mp hx)
          exact first_in d x q rfl
        have h2 := allWords_len ok
        omega
      have hsame := same_upd (SetTO P w sa ys) hsa
      have s46 := hsame.trans (same_upd (.lst (zs.map V.str)) hp)
      have hpl : p ≠ r.la := fun e => ne_of_none (rd4.same hsame).la hp e.symm
      have hpv : p ≠ r.va := by
        obtain ⟨kv, ek, _⟩ := (rd4.same hsame).va
        exact fun e => ne_of_none ek hp e.symm
      refine for_list (K := K) (a := p) (xs := zs.map V.str) (fun i σ H' => ∃ v5, σ = [some (.ref t), some (.ref r.p), some (.ref kd), some (.int n), some (.ref l), v5] ∧ Kp [r.la, r.va] H4 H' ∧ RdAt a H' r S [] (Full []) ∧ H' p = some (.lst (zs.map V.str)))
        ⟨v5, rfl, .of_same s46, rd4.same s46, upd_same⟩ (fun i σ H' _ ⟨_, _, _, _, e⟩ => SqL.of e) ?_ ?_
      · rintro i x σ H7 hx ⟨v5, rfl, k7, rd7, p7⟩
        rw [List.getElem?_map] at hx
        obtain ⟨w, hwi, rfl⟩ := Option.map_eq_some_iff.mp hx
        obtain ⟨q, dw⟩ := (st2.2.2 w).mp ((hys w).mp ((hz w).mp (List.mem_of_getElem? hwi)))
        have hwa := first_in dw w q rfl
        show tbBegins a _ _ _ _
        unfold tbBegins
        refine ⟨_, rfl, r.p, r.dx, _, rfl, rd7.ob, rfl, _, rfl, r, S, [], w, rfl, rd7, ok, by show 0 ≤ 5; omega, hwa, alive rd7 (kk4.trans k7) hav, fun p1 l1 g1 pm1 ms1 H8 hex k8 rd8 b8 => ?_, fun H8 hno k8 rd8 => ?_⟩
        · refine ⟨_, rfl, r.p, r.dx, _, rfl, rd8.ob, rfl, _, rfl, r, S, [] ++ [w], n, rfl, rd8, ok, by show 1 ≤ 6; omega, by omega, fun bb H9 s9 hb9 => ⟨_, _, rfl, rfl, ?_⟩⟩
          have : bb = true := hb9.mpr ⟨q, dw⟩
          subst this
          have rd9 := rd8.same s9
          refine ⟨_, rfl, iteF ?_⟩
          refine ⟨_, rfl, r.p, r.dx, _, rfl, rd9.ob, rfl, r, S, [], w, rfl, rd9, ok, by show 0 ≤ 5; omega, fun z => absurd rfl z, fun p2 l2 g2 pm2 ms2 H10 k10 rd10 b10 => ?_⟩
          have pm : p ∉ [r.la, r.va] := by simp [hpl, hpv]
          exact ⟨_, rfl, ((k7.trans k8).trans (.of_same s9)).trans k10, rd10, k10 _ _ (s9 _ _ (k8 _ _ p7 pm)) pm⟩
        · obtain ⟨m', _, dm⟩ := dw.prefix_ ok [w] q rfl (by simp)
          exact absurd dm (hno m')
      · rintro σ H7 ⟨v5, rfl, k7, rd7, _⟩
        have st := rd4.stay rd7 k7
        exact ⟨_, _, _, rfl, kk4.trans k7, rd7, ks4.stay st, ra4.stay st, st.tup _ _ ht4⟩
    · rintro σ H1 ⟨v3, v4, v5, rfl, k1, rd1, _⟩
      exact k H1 k1 rd1
end
end K30
set_option Elab.async false
set_option linter.all false
set_option maxRecDepth 100000
set_option maxHeartbeats 4000000
/-! K30W: the law. -/
namespace K30
open PySem PySem.Spec PyProof.Rows L2 L2H
open StX (pa_star)
open C8 (pe_gc)
def spLaw (K : PySem.W.Frag) : Sp := fun vs H Q _ => ∃ (a : Addr) (ns : List Int), vs = [.ref a] ∧ SqL K H a (ns.map V.int) ∧ ns.length ≤ 63 ∧ (∀ z ∈ ns, Builtin.Int.intBits z ≤ 1048576) ∧ ∀ H', Q (.bl true) H'
theorem same_two {H H1 H2 : Hp} {x : Addr} (hx : H x = none) (s1 : Same H H1) (k : Kp [x] H1 H2) : Same H H2 := fun b o e => k b o (s1 b o e) (by simpa using ne_of_none e hx)
theorem PoolAt.kp {H H' : Hp} {pp cl : Addr} {dg : Int} {M : List Addr} (h : PoolAt H pp cl dg) (k : Kp M H H') (h1 : pp ∉ M) (h2 : cl ∉ M) : PoolAt H' pp cl dg := by
  obtain ⟨⟨cells, ix, st, a1, a2, a3, a4, a5, a6, a7⟩, a8⟩ := h
  exact pool_mk (k _ _ a1 h1) (k _ _ a2 h2) a3 a4 a5 a6 a7 a8
theorem PoolAt.live {H : Hp} {pp cl : Addr} {dg : Int} (h : PoolAt H pp cl dg) : ∀ b ∈ [pp, cl], H b ≠ none := by
  intro b hb e
  obtain ⟨xs, e1⟩ := h.pp_lst
  obtain ⟨ys, e2⟩ := h.cl_lst
  simp only [List.mem_cons, List.not_mem_nil, or_false] at hb
  rcases hb with rfl | rfl
  · rw [e1] at e
    cases e
  · rw [e2] at e
    cases e
section
variable {P : Program} {w : World} {K : PySem.W.Frag} {mg : Str → Option Value} {base : Heap} {a : Ad}
theorem g_law (T : Txt K mg a) (G_push : FnOk P w K mg base (L2N.CX P w) 87 a.f_push a.d_push ["self", "word"] (sp_push a)) (G_lPool : FnOk P w K mg base CX0 1 a.f_lPool a.d_lPool ["_law_script"] (sp_lPool K)) (G_lTake : FnOk P w K mg base CX0 3 a.f_lTake a.d_lTake ["_law_pool_here", "_law_many"] (sp_lTake False))
    (G_lRows : FnOk P w K mg base CX0 5 a.f_lRows a.d_lRows ["_law_pool_here", "_law_most", "_law_high", "_law_counts"] sp_lRows) (G_sysInit : FnOk P w K mg base CX0 4 a.f_sysInit a.d_sysInit ["self", "simple", "multipliers"] (sp_sysInit a)) (G_rdInit : FnOk P w K mg base CX0 1 a.f_rdInit a.d_rdInit ["self", "system"] (sp_rdInit a))
    (G_lBegins : FnOk P w K mg base CX0 88 a.f_lBegins a.d_lBegins ["_law_rows_here", "_law_reader"] (sp_lBegins a)) (G_lStage : FnOk P w K mg base CX0 89 a.f_lStage a.d_lStage ["_law_reader", "_law_system"] (sp_lStage a)) :
    FnOk P w K mg base CX0 90 a.f_law a.d_law ["_law_script"] (spLaw K) := by
  refine T.F_law.ok sc_law (fun vs H Q E h => ?_) (fun cdv A outer s H vs Q E hr h => ?_)
  · obtain ⟨p, ns, rfl, _⟩ := h
    rfl
  · obtain ⟨p, ns, rfl, hs, hl, _, k⟩ := h
    refine ⟨_, (pss_cons (ps_set (i := 1) sc_law.nd rfl (Or.inl rfl) (pe_call G_lPool (hr.mono (by omega)) (by rfl) T.m_lPool T.F_lPool.kp T.b_lPool .nil pass0 (pa_cons (pv 0) pa_nil)))
      (pss_cons (ps_set (i := 2) sc_law.nd rfl (Or.inl rfl) (pe_call G_lRows (hr.mono (by omega)) (by rfl) T.m_lRows T.F_lRows.kp T.b_lRows .nil pass0 (pa_cons (pv 1) (pa_cons pe_int (pa_cons pe_int (pa_cons pe_int pa_nil))))))
      (pss_cons (ps_set (i := 3) sc_law.nd rfl (Or.inl rfl) (pe_make T.mk_cSys G_sysInit (hr.mono (by omega)) (by rfl) T.m_cSys T.b_sysInit .nil pass0 (pa_cons (pe_ix (ixT K) (pv 2) pe_int (fun _ _ => rfl)) (pa_cons (pe_ix (ixT K) (pv 2) pe_int (fun _ _ => rfl)) pa_nil))))
      (pss_cons (ps_set (i := 4) sc_law.nd rfl (Or.inl rfl) (pe_make T.mk_cRd G_rdInit (hr.mono (by omega)) (by rfl) T.m_cRd T.b_rdInit .nil pass0 (pa_cons (pv 3) pa_nil)))
      (pss_cons (ps_if (pt_not (pt_val (pe_call G_lBegins (hr.mono (by omega)) (by rfl) T.m_lBegins T.F_lBegins.kp T.b_lBegins .nil pass0 (pa_cons (pv 2) (pa_cons (pv 4) pa_nil))))) (pss_one (ps_ret pe_bl)) pss_nil)
      (pss_cons (psg_for PassesOwn.never (.inl rfl) (pig_range1 (by rfl) T.z_range (pa_cons (pe_op op_add pe_int (pe_call G_lTake (hr.mono (by omega)) (by rfl) T.m_lTake T.F_lTake.kp T.b_lTake .nil pass0 (pa_cons (pv 1) (pa_cons pe_int pa_nil)))) pa_nil)) (pg_name (i := 5) sc_law.nd rfl (.inl rfl))
      (pss_cons (ps_set (i := 6) sc_law.nd rfl (Or.inl rfl) (pe_call G_lStage (hr.mono (by omega)) (by rfl) T.m_lStage T.F_lStage.kp T.b_lStage .nil pass0 (pa_cons (pv 4) (pa_cons (pv 3) pa_nil))))
      (pss_cons (ps_if (pt_cmpR op_isN (pv 6) pe_non (nomark _)) (pss_one (ps_ret pe_bl)) pss_nil)
      (pss_cons (ps_if (pt_not (truthK K (pv 6) (by intro _; rfl))) (pss_one ps_break) pss_nil)
      (pss_one (ps_expr (pe_methX (pv 4) T.cl_cRd T.e_push G_push (hr.mono (by omega)) T.b_push pass_no (pa_cons (pe_ix (ixL K) (pv 6) (pe_call G_lTake (hr.mono (by omega)) (by rfl) T.m_lTake T.F_lTake.kp T.b_lTake .nil pass0 (pa_cons (pv 1) (pa_cons (pe_callB (lenSeq K) (by rfl) T.z_len (by decide +kernel) (pa_cons (pv 6) pa_nil)) pa_nil))) (fun _ _ => rfl)) pa_nil))))))))
      (pss_one (ps_ret pe_bl)))))))), ?_⟩
    refine ⟨_, rfl, p, ns, rfl, hs, hl, fun pp cl H1 s1 p1 => ?_⟩
    dsimp only [gName]
    refine ⟨_, rfl, pp, cl, 0, rfl, p1, fun t la lb ps ms S dg2 H2 k2 p2 ht2 ra2 ok wo => ?_⟩
    dsimp only [gName]
    refine ⟨_, rfl, t, _, 0, .ref la, rfl, rfl, SqT.of ht2, rfl, _, rfl, t, _, 1, .ref lb, rfl, rfl, SqT.of ht2, rfl, fun x dx hx hdx hxx => ?_⟩
    have s3 := (same_upd (.own x) hdx).trans (same_upd (.ins a.cSys dx []) (show upd H2 dx (.own x) x = none by rw [upd_ne (Ne.symm hxx)]; exact hx))
    refine ⟨x, dx, la, lb, ps, ms, S, rfl, upd_same, ra2.same s3, ok, wo, fun sy H3 hsy k3 sa3 => ⟨rfl, ?_⟩⟩
    subst hsy
    have s23 : Same H2 H3 := same_two hx s3 k3
    dsimp only [gName]
    refine ⟨_, rfl, fun y dy hy hdy hyy => ?_⟩
    have s4 := (same_upd (.own y) hdy).trans (same_upd (.ins a.cRd dy []) (show upd H3 dy (.own y) y = none by rw [upd_ne (Ne.symm hyy)]; exact hy))
    refine ⟨y, dy, sy, S, rfl, upd_same, sa3.same s4, (fun e => ne_of_none sa3.ob hy e.symm), fun ra va H4 k4 hra hva rd4 => ⟨rfl, ?_⟩⟩
    obtain ⟨r, hr0⟩ : ∃ r : RA, r = ⟨y, dy, ra, va, sy, [pp, cl]⟩ := ⟨_, rfl⟩
    have rd := rd4 [pp, cl]
    rw [← hr0] at rd
    have e1 : r.p = y := by rw [hr0]
    have e2 : r.s.p = sy.p := by rw [hr0]
    have e3 : r.la = ra := by rw [hr0]
    have e4 : r.va = va := by rw [hr0]
    have e5 : r.av = [pp, cl] := by rw [hr0]
    have s34 : Same H3 H4 := same_two hy s4 k4
    have s24 := s23.trans s34
    have pd4 := p2.same s24
    have pdy := (p2.same s23).same s4
    obtain ⟨x1, f1⟩ := pdy.pp_lst
    obtain ⟨x2, f2⟩ := pdy.cl_lst
    have npp : pp ∉ [r.la, r.va] := by
      rw [e3, e4]
      simp [ne_of_none f1 hra, ne_of_none f1 hva]
    have ncl : cl ∉ [r.la, r.va] := by
      rw [e3, e4]
      simp [ne_of_none f2 hra, ne_of_none f2 hva]
    have nppl : pp ≠ r.la := e3 ▸ ne_of_none f1 hra
    have hpav : pp ∈ r.av := by rw [e5]; exact List.mem_cons_self
    rw [← e1, ← e2]
    dsimp only [gName]
    refine ⟨_, rfl, _, rfl, t, la, lb, ps, ms, r, S, rfl, rd, ok, wo, s24 _ _ ht2, ra2.same s24, e5 ▸ pd4.live, fun H5 k5 rd5 => ⟨_, rfl, iteF ?_⟩⟩
    have pd5 := pd4.kp k5 npp ncl
    dsimp only [tNext]
    refine ⟨_, rfl, pp, cl, _, 5, rfl, pd5, (fun z => z.elim), by decide, by decide, fun z dg6 H6 z0 z5 k6 pd6 => ⟨_, _, rfl, rfl, _, rfl, by omega, by omega, ?_⟩⟩
    obtain ⟨n, hn⟩ : ∃ n : Nat, (1 + z).toNat = n := ⟨_, rfl⟩
    rw [hn]
    have hn5 : n ≤ 5 := by omega
    obtain ⟨x5, f5⟩ := pd5.pp_lst
    have rd6 := rd5.lstKp k6 f5 nppl hpav
    refine for_range (lo := 0) (n := n) (fun i σ H' => ∃ (ws : List Str) (v5 v6 : Option V), σ = [some (.ref p), some (.ref pp), some (.ref t), some (.ref r.s.p), some (.ref r.p), v5, v6] ∧ RdAt a H' r S ws (Full ws) ∧ (∃ dg, PoolAt H' pp cl dg) ∧ ws.length ≤ i ∧ (ws ≠ [] → ∃ n, Der S n ws))
      ⟨[], none, none, rfl, rd6, ⟨_, pd6⟩, Nat.le_refl _, fun z => absurd rfl z⟩ ?_ (fun σ H' _ => k H')
    rintro i σ H7 hi ⟨ws, v5, v6, rfl, rd7, ⟨dg7, pd7⟩, hwi, hne⟩
    refine ⟨_, rfl, _, rfl, r, S, ws, rfl, rd7, ok, by omega, hne, e5 ▸ pd7.live, fun wl wds H8 k8 rd8 hwl hw hwn => ?_⟩
    have pd8 := pd7.kp k8 npp ncl
    dsimp only [gName]
    refine ⟨_, rfl, rfl, _, rfl, iteF ?_⟩
    dsimp only [tNext]
    refine ⟨_, rfl, _, .inl ⟨_, SqL.of hwl, rfl⟩, ?_⟩
    cases wds with
    | nil => exact iteT (k H8)
    | cons w0 wr =>
      refine iteF ?_
      have hwp : wl ≠ pp := fun e => by
        obtain ⟨⟨cells, ix, st, a1, _⟩, _⟩ := pd8
        rw [e, a1] at hwl
        cases hwl
      refine ⟨_, rfl, r.p, r.dx, _, rfl, rd8.ob, rfl, _, rfl, _, rfl, _, rfl, wl, _, rfl, .inl (SqL.of hwl), pp, cl, dg7, _, rfl, pd8, (fun z => z.elim), ?_, ?_, fun z9 dg9 H9 g0 g1 k9 pd9 => ?_⟩
      · rw [List.length_map]
        show (1 : Int) ≤ ((wr.length + 1 : Nat) : Int)
        omega
      · rw [List.length_map]
        have : (w0 :: wr).length ≤ 8 := hwn
        omega
      rw [List.length_map] at g1
      obtain ⟨j, rfl⟩ : ∃ j : Nat, z9 = (j : Int) := ⟨z9.toNat, by omega⟩
      have hj : j < (w0 :: wr).length := by omega
      obtain ⟨wx, hwx⟩ : ∃ wx, (w0 :: wr)[j]? = some wx := ⟨_, List.getElem?_eq_getElem hj⟩
      obtain ⟨x8, f8⟩ := pd8.pp_lst
      have rd9 := rd8.lstKp k9 f8 nppl hpav
      have push := (hw wx).mp (List.mem_of_getElem? hwx)
      refine ⟨wl, _, _, .str wx, rfl, rfl, SqL.of (k9 _ _ hwl (by simpa using hwp)), atI_nat (by rw [List.getElem?_map, hwx]; rfl), r, S, ws, wx, rfl, rd9, ok, by omega, push.1, e5 ▸ pd9.live, fun p1 l1 g1 pm1 ms1 H10 hex k10 rd10 _ => ?_, fun H10 hno _ _ => ?_⟩
      · exact ⟨ws ++ [wx], _, _, rfl, rd10, ⟨_, pd9.kp k10 npp ncl⟩, by rw [List.length_append, List.length_singleton]; omega, fun _ => hex⟩
      · obtain ⟨m, dm⟩ := push.2
        exact absurd dm (hno m)
end
end K30
set_option Elab.async false
set_option linter.all false
set_option maxRecDepth 100000
set_option maxHeartbeats 4000000
/-! K30X: all defs together. -/
namespace K30
open PySem PySem.Spec PyProof.Rows L2 L2H
theorem ok_law {P : Program} {w : World} {K : PySem.W.Frag} {mg : Str → Option Value} {base : Heap} {a : Ad} (T : Txt K mg a) : FnOk P w K mg base CX0 200 a.f_law a.d_law ["_law_script"] (spLaw K) := by
  have h_isSpoken := g_isSpoken (P := P) (w := w) (base := base) T
  have h_simpleValue := g_simpleValue (P := P) (w := w) (base := base) T
  have h_multiplier := g_multiplier (P := P) (w := w) (base := base) T
  have h_endless := g_endless (P := P) (w := w) (base := base) T
  have h_bmax := g_bmax (P := P) (w := w) (base := base) T
  have h_sysWords := g_sysWords (P := P) (w := w) (base := base) T
  have h_rdWords := g_rdWords (P := P) (w := w) (base := base) T
  have h_counts := g_counts (P := P) (w := w) (base := base) T (G_isSpoken := h_isSpoken)
  have h_rests := g_rests (P := P) (w := w) (base := base) T
  have h_meanings := g_meanings (P := P) (w := w) (base := base) T
  have h_atMost := g_atMost (P := P) (w := w) (base := base) T 27
  have h_allows := g_allows (P := P) (w := w) (base := base) T (G_atMost := h_atMost)
  have h_greatest := g_greatest (P := P) (w := w) (base := base) T (G_atMost := h_atMost) (G_endless' := h_endless) (G_bmax' := h_bmax) (G_meanings' := h_meanings) (G_isSpoken' := h_isSpoken)
  have h_least := g_least (P := P) (w := w) (base := base) T (G_meanings := h_meanings)
  have h_bounds := g_bounds (P := P) (w := w) (base := base) T (G_least' := h_least) (G_greatest := h_greatest) (G_meanings' := h_meanings)
  have h_lIsInt := g_lIsInt (P := P) (w := w) (base := base) T
  have h_lSame := g_lSame (P := P) (w := w) (base := base) T 3
  have h_derived := g_derived (P := P) (w := w) (base := base) T (G_simpleValue' := h_simpleValue) (G_multiplier' := h_multiplier) (G_counts := h_counts) (G_rests' := h_rests)
  have h_add := g_add (P := P) (w := w) (base := base) T (G_derived := h_derived)
  have h_drop := g_drop (P := P) (w := w) (base := base) T
  have h_rdInit := g_rdInit (P := P) (w := w) (base := base) T
  have h_pop := g_pop (P := P) (w := w) (base := base) T (G_drop' := h_drop) (G_bounds := h_bounds)
  have h_push := g_push (P := P) (w := w) (base := base) T (G_add' := h_add) (G_drop' := h_drop) (G_bounds := h_bounds) (G_meanings' := h_meanings) (G_sysWords' := h_sysWords)
  have h_isWord := g_isWord (P := P) (w := w) (base := base) T
  have h_simpleFault := g_simpleFault (P := P) (w := w) (base := base) T (G_isWord := h_isWord)
  have h_multFault := g_multFault (P := P) (w := w) (base := base) T (G_isWord := h_isWord)
  have h_checkRows := g_checkRows (P := P) (w := w) (base := base) T (G_simpleFault := h_simpleFault) (G_multFault := h_multFault)
  have h_checkWords := g_checkWords (P := P) (w := w) (base := base) T
  have h_checkEndless := g_checkEndless (P := P) (w := w) (base := base) T
  have h_sysInit := g_sysInit (P := P) (w := w) (base := base) T (G_checkRows := h_checkRows) (G_checkWords' := h_checkWords) (G_checkEndless' := h_checkEndless)
  have h_lPool := g_lPool (P := P) (w := w) (base := base) T
  have h_lTake := g_lTake (P := P) (w := w) (base := base) T
  have h_lWord := g_lWord (P := P) (w := w) (base := base) T (G_lTake := h_lTake)
  have h_lRows := g_lRows (P := P) (w := w) (base := base) T (G_lTake' := h_lTake) (G_lWord := h_lWord)
  have h_lStarts := g_lStarts (P := P) (w := w) (base := base) T 6
  have h_lTried := g_lTried (P := P) (w := w) (base := base) T (G_push := h_push) (G_pop := h_pop) (G_bounds := h_bounds) (G_allows := h_allows) (G_rdWords := h_rdWords) (G_sysWords := h_sysWords) (G_lSame := h_lSame)
  have h_lStage := g_lStage (P := P) (w := w) (base := base) T (G_lTried := h_lTried) (G_bounds := h_bounds) (G_allows := h_allows) (G_endless := h_endless) (G_isSpoken := h_isSpoken) (G_lSame := h_lSame)
  have h_lBegins := g_lBegins (P := P) (w := w) (base := base) T (G_push := h_push) (G_pop := h_pop) (G_allows := h_allows) (G_lStarts := h_lStarts) (G_lSame := h_lSame)
  exact (g_law T (G_push := h_push) (G_lPool := h_lPool) (G_lTake := h_lTake) (G_lRows := h_lRows) (G_sysInit := h_sysInit) (G_rdInit := h_rdInit) (G_lBegins := h_lBegins) (G_lStage := h_lStage)).mono (by omega)
end K30
set_option Elab.async false
set_option linter.all false
set_option maxRecDepth 100000
namespace K30
open PySem PySem.Spec PyProof.Rows L2
theorem fin {P : Program} {w : World} {K : PySem.W.Frag} {mg : Str → Option Value} {fa : Addr} (h : ∃ a : Ad, Txt K mg a ∧ a.f_law = fa ∧ ∀ (s : Shared) (v : Value), BindsTo s a.d_law ⟨[v], []⟩ [("_law_script", v)]) :
    ∃ fd : FuncData, (∀ (s : Shared) (u : Value), BindsTo s fd ⟨[u], []⟩ [("_law_script", u)]) ∧ ∀ base : Heap, K.In base → base.Ns mainGlobals mg → FnOk P w K mg base CX0 200 fa fd ["_law_script"] (spLaw K) := by
  obtain ⟨a, T, rfl, hb⟩ := h
  exact ⟨a.d_law, hb, fun base _ _ => ok_law T⟩
theorem walk {l : PySem.W.OpenLaw} {q : Program} {loose : List Str} {XP : (Str → Option Value) → Heap → Prop} {YP : World → Heap → Prop} {d : DefRec} {K : Params → PySem.W.Frag} (hn : l.most = some 63) (hdf : d.params.defaults = [])
    (hY : ∀ (w : World) (h : Heap), YP w h → (K w.params).In h)
    (F : ∀ (w : World) (mg : Str → Option Value) (fa : Addr) (h : Heap), (K w.params).In h → h.Ns mainGlobals mg → mg d.name = some (.ref fa) →
      ∃ fd : FuncData, (∀ (s : Shared) (u : Value), BindsTo s fd ⟨[u], []⟩ [("_law_script", u)]) ∧ ∀ base : Heap, (K w.params).In base → base.Ns mainGlobals mg → FnOk l.prog w (K w.params) mg base CX0 200 fa fd ["_law_script"] (spLaw (K w.params))) :
    PySem.W.WalkO q loose XP YP l.row.toRowW d [] (fun f vs => PySem.call f vs) :=
  L2.walk_ofB (n := 63) (k := 200) (x := "_law_script") (CX := fun _ => CX0) (sp := fun w => spLaw (K w.params)) hn (by decide) hdf ⟨rfl, by decide, by decide⟩ hY F (fun _ _ a ns hl hb _ hS => ⟨a, ns, rfl, hS, hl, hb, fun _ => rfl⟩) fun _ _ _ _ _ z => z
end K30
open PySem PySem.W PyProof.Rows
set_option maxRecDepth 100000 in
set_option maxHeartbeats 0 in
theorem PySem.Challenge.cw_sayonce_k30_whole_word_by_word_holds : PySem.Challenge.rw_sayonce_k30_whole_word_by_word.Holds := by
  w_on; o_law; k_head; (case hw => w_witness2)
  k_fill
  refine K30.walk (l := PySem.Challenge.rw_sayonce_k30_whole_word_by_word) rfl rfl (fun w h Y => PySem.W.kIn_of Y) ?F
  case F =>
    intro w mg fa h KX G hmg
    refine K30.fin ?_
    refine' K30.all_mk KX G hmg ?acSys ?acRd ?a0 ?l0 ?c0 ?k0 ?a1 ?l1 ?c1 ?k1 ?a2 ?l2 ?c2 ?k2 ?a3 ?l3 ?c3 ?k3 ?a4 ?l4 ?c4 ?k4 ?a5 ?l5 ?c5 ?k5 ?a6 ?i6 ?l6 ?c6 ?k6 ?a7 ?i7 ?l7 ?c7 ?k7 ?a8 ?i8 ?l8 ?c8 ?k8 ?a9 ?i9 ?l9 ?c9 ?k9 ?a10 ?i10 ?l10 ?c10 ?k10 ?a11 ?i11 ?l11 ?c11 ?k11 ?a12 ?l12 ?c12 ?k12 ?a13 ?i13 ?l13 ?c13 ?k13 ?a14 ?i14 ?l14 ?c14 ?k14 ?a15 ?i15 ?l15 ?c15 ?k15 ?a16 ?i16 ?l16 ?c16 ?k16 ?a17 ?i17 ?l17 ?c17 ?k17 ?a18 ?i18 ?l18 ?c18 ?k18 ?a19 ?i19 ?l19 ?c19 ?k19 ?a20 ?i20 ?l20 ?c20 ?k20 ?a21 ?i21 ?l21 ?c21 ?k21 ?a22 ?i22 ?l22 ?c22 ?k22 ?a23 ?i23 ?l23 ?c23 ?k23 ?a24 ?i24 ?l24 ?c24 ?k24 ?a25 ?i25 ?l25 ?c25 ?k25 ?a26 ?i26 ?l26 ?c26 ?k26 ?a27 ?i27 ?l27 ?c27 ?k27 ?a28 ?i28 ?l28 ?c28 ?k28 ?a29 ?i29 ?l29 ?c29 ?k29 ?a30 ?i30 ?l30 ?c30 ?k30 ?a31 ?l31 ?c31 ?k31 ?a32 ?l32 ?c32 ?k32 ?a33 ?l33 ?c33 ?k33 ?a34 ?l34 ?c34 ?k34 ?a35 ?l35 ?c35 ?k35 ?a36 ?l36 ?c36 ?k36 ?a37 ?l37 ?c37 ?k37 ?a38 ?l38 ?c38 ?k38 ?a39 ?l39 ?c39 ?k39 ?a40 ?l40 ?c40 ?k40 ?a41 ?l41 ?c41 ?k41 ?pgcSys ?hdcSys ?pocSys ?sacSys ?mkcSys ?kccSys ?ncSyssimple ?ncSysmultipliers ?ncSys_values ?ncSys_rows ?pgcRd ?hdcRd ?pocRd ?sacRd ?mkcRd ?kccRd ?ncRd_system ?ncRd_words ?ncRd_values ?zlen ?zall ?zenumerate ?ztuple ?zmax ?zmin ?zrange ?zsorted ?zisinstance ?zint ?zbool ?zstr ?zlist ?zset ?vMOST_LETTERS ?vMOST_SIMPLE ?vMOST_MULTIPLIERS ?vMOST_VALUE ?vMOST_WORDS ?vLETTERS ?aNP ?xNP ?kNP ?bNP ?tNP ?iNP ?sNP
    (case acSys => k_is)
    (case acRd => k_is)
    (case a0 => k_is)
    (case l0 => k_is)
    (case c0 => k_is)
    (case k0 => k_is)
    (case a1 => k_is)
    (case l1 => k_is)
    (case c1 => k_is)
    (case k1 => k_is)
    (case a2 => k_is)
    (case l2 => k_is)
    (case c2 => k_is)
    (case k2 => k_is)
    (case a3 => k_is)
    (case l3 => k_is)
    (case c3 => k_is)
    (case k3 => k_is)
    (case a4 => k_is)
    (case l4 => k_is)
    (case c4 => k_is)
    (case k4 => k_is)
    (case a5 => k_is)
    (case l5 => k_is)
    (case c5 => k_is)
    (case k5 => k_is)
    (case a6 => k_is)
    (case i6 => k_is)
    (case l6 => k_is)
    (case c6 => k_is)
    (case k6 => k_is)
    (case a7 => k_is)
    (case i7 => k_is)
    (case l7 => k_is)
    (case c7 => k_is)
    (case k7 => k_is)
    (case a8 => k_is)
    (case i8 => k_is)
    (case l8 => k_is)
    (case c8 => k_is)
    (case k8 => k_is)
    (case a9 => k_is)
    (case i9 => k_is)
    (case l9 => k_is)
    (case c9 => k_is)
    (case k9 => k_is)
    (case a10 => k_is)
    (case i10 => k_is)
    (case l10 => k_is)
    (case c10 => k_is)
    (case k10 => k_is)
    (case a11 => k_is)
    (case i11 => k_is)
    (case l11 => k_is)
    (case c11 => k_is)
    (case k11 => k_is)
    (case a12 => k_is)
    (case l12 => k_is)
    (case c12 => k_is)
    (case k12 => k_is)
    (case a13 => k_is)
    (case i13 => k_is)
    (case l13 => k_is)
    (case c13 => k_is)
    (case k13 => k_is)
    (case a14 => k_is)
    (case i14 => k_is)
    (case l14 => k_is)
    (case c14 => k_is)
    (case k14 => k_is)
    (case a15 => k_is)
    (case i15 => k_is)
    (case l15 => k_is)
    (case c15 => k_is)
    (case k15 => k_is)
    (case a16 => k_is)
    (case i16 => k_is)
    (case l16 => k_is)
    (case c16 => k_is)
    (case k16 => k_is)
    (case a17 => k_is)
    (case i17 => k_is)
    (case l17 => k_is)
    (case c17 => k_is)
    (case k17 => k_is)
    (case a18 => k_is)
    (case i18 => k_is)
    (case l18 => k_is)
    (case c18 => k_is)
    (case k18 => k_is)
    (case a19 => k_is)
    (case i19 => k_is)
    (case l19 => k_is)
    (case c19 => k_is)
    (case k19 => k_is)
    (case a20 => k_is)
    (case i20 => k_is)
    (case l20 => k_is)
    (case c20 => k_is)
    (case k20 => k_is)
    (case a21 => k_is)
    (case i21 => k_is)
    (case l21 => k_is)
    (case c21 => k_is)
    (case k21 => k_is)
    (case a22 => k_is)
    (case i22 => k_is)
    (case l22 => k_is)
    (case c22 => k_is)
    (case k22 => k_is)
    (case a23 => k_is)
    (case i23 => k_is)
    (case l23 => k_is)
    (case c23 => k_is)
    (case k23 => k_is)
    (case a24 => k_is)
    (case i24 => k_is)
    (case l24 => k_is)
    (case c24 => k_is)
    (case k24 => k_is)
    (case a25 => k_is)
    (case i25 => k_is)
    (case l25 => k_is)
    (case c25 => k_is)
    (case k25 => k_is)
    (case a26 => k_is)
    (case i26 => k_is)
    (case l26 => k_is)
    (case c26 => k_is)
    (case k26 => k_is)
    (case a27 => k_is)
    (case i27 => k_is)
    (case l27 => k_is)
    (case c27 => k_is)
    (case k27 => k_is)
    (case a28 => k_is)
    (case i28 => k_is)
    (case l28 => k_is)
    (case c28 => k_is)
    (case k28 => k_is)
    (case a29 => k_is)
    (case i29 => k_is)
    (case l29 => k_is)
    (case c29 => k_is)
    (case k29 => k_is)
    (case a30 => k_is)
    (case i30 => k_is)
    (case l30 => k_is)
    (case c30 => k_is)
    (case k30 => k_is)
    (case a31 => k_is)
    (case l31 => k_is)
    (case c31 => k_is)
    (case k31 => k_is)
    (case a32 => k_is)
    (case l32 => k_is)
    (case c32 => k_is)
    (case k32 => k_is)
    (case a33 => k_is)
    (case l33 => k_is)
    (case c33 => k_is)
    (case k33 => k_is)
    (case a34 => k_is)
    (case l34 => k_is)
    (case c34 => k_is)
    (case k34 => k_is)
    (case a35 => k_is)
    (case l35 => k_is)
    (case c35 => k_is)
    (case k35 => k_is)
    (case a36 => k_is)
    (case l36 => k_is)
    (case c36 => k_is)
    (case k36 => k_is)
    (case a37 => k_is)
    (case l37 => k_is)
    (case c37 => k_is)
    (case k37 => k_is)
    (case a38 => k_is)
    (case l38 => k_is)
    (case c38 => k_is)
    (case k38 => k_is)
    (case a39 => k_is)
    (case l39 => k_is)
    (case c39 => k_is)
    (case k39 => k_is)
    (case a40 => k_is)
    (case l40 => k_is)
    (case c40 => k_is)
    (case k40 => k_is)
    (case a41 => k_is)
    (case l41 => k_is)
    (case c41 => k_is)
    (case k41 => k_is)
    (case pgcSys => k_is)
    (case hdcSys => k_is)
    (case pocSys => k_is)
    (case sacSys => k_is)
    (case mkcSys => k_is)
    (case kccSys => k_is)
    (case ncSyssimple => k_is)
    (case ncSysmultipliers => k_is)
    (case ncSys_values => k_is)
    (case ncSys_rows => k_is)
    (case pgcRd => k_is)
    (case hdcRd => k_is)
    (case pocRd => k_is)
    (case sacRd => k_is)
    (case mkcRd => k_is)
    (case kccRd => k_is)
    (case ncRd_system => k_is)
    (case ncRd_words => k_is)
    (case ncRd_values => k_is)
    (case zlen => k_is)
    (case zall => k_is)
    (case zenumerate => k_is)
    (case ztuple => k_is)
    (case zmax => k_is)
    (case zmin => k_is)
    (case zrange => k_is)
    (case zsorted => k_is)
    (case zisinstance => k_is)
    (case zint => k_is)
    (case zbool => k_is)
    (case zstr => k_is)
    (case zlist => k_is)
    (case zset => k_is)
    (case vMOST_LETTERS => k_is)
    (case vMOST_SIMPLE => k_is)
    (case vMOST_MULTIPLIERS => k_is)
    (case vMOST_VALUE => k_is)
    (case vMOST_WORDS => k_is)
    (case vLETTERS => k_is)
    (case aNP => k_is)
    (case xNP => k_exc)
    (case kNP => k_is)
    (case bNP => k_is)
    (case tNP => k_is)
    (case iNP => k_is)
    (case sNP => first | rfl | k_is)
