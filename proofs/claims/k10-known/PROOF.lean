import PyProof.Rows.All
import Wide.All
import OpenK.AllK
import Wide.FinOn
import HandS.ForMost
import HandS.EndBits
import HandS.Evl
import HandS.IsInst
import HandS.SetFor
import HandS.SortInts
import HandS.Style
import HandS.Wide
import HandS.Walk
import HandS.Set
import HandS.Strs
import HandS.Conv
import HandS.ExcCtx
import HandS.ExcIs
import HandS.ExcOwn
import HandS.WordsExc
import HandS.HotCalls
import HandS.Nested
import HandS.EndTab
import KE.KNest
import PySem.Challenge.RW_doorturns_k10_whole_known
set_option Elab.async false
set_option linter.all false
set_option maxRecDepth 100000
set_option maxHeartbeats 4000000
/-! Plain laws about turners and doors; core Lean alone. -/
namespace Dt

/-- how many of the turners go into d -/
def hits (ts : List Int) (d : Int) : Nat := ts.countP fun t => decide (d % t = 0)
/-- whether door d stands open behind ts -/
def opn (ts : List Int) (d : Int) : Bool := decide (hits ts d % 2 = 1)

theorem hits_nil (d : Int) : hits [] d = 0 := rfl
theorem hits_app (a b : List Int) (d : Int) : hits (a ++ b) d = hits a d + hits b d := List.countP_append
theorem hits_one (t d : Int) : hits [t] d = if d % t = 0 then 1 else 0 := by
  unfold hits
  by_cases h : d % t = 0 <;> simp [List.countP_cons, h]
theorem hits_cons (t : Int) (r : List Int) (d : Int) : hits (t :: r) d = hits r d + if d % t = 0 then 1 else 0 := by
  have := hits_app [t] r d
  rw [List.singleton_append, hits_one] at this
  omega
theorem opn_nil (d : Int) : opn [] d = false := rfl
theorem par_not (n : Nat) : decide ((n + 1) % 2 = 1) = !decide (n % 2 = 1) := by
  by_cases h : n % 2 = 1
  · rw [decide_eq_true h, decide_eq_false (by omega)]; rfl
  · rw [decide_eq_false h, decide_eq_true (by omega)]; rfl
theorem par_add (m n : Nat) : decide ((m + n) % 2 = 1) = (decide (m % 2 = 1) != decide (n % 2 = 1)) := by
  by_cases h : m % 2 = 1 <;> by_cases g : n % 2 = 1
  · rw [decide_eq_true h, decide_eq_true g, decide_eq_false (by omega)]; rfl
  · rw [decide_eq_true h, decide_eq_false g, decide_eq_true (by omega)]; rfl
  · rw [decide_eq_false h, decide_eq_true g, decide_eq_true (by omega)]; rfl
  · rw [decide_eq_false h, decide_eq_false g, decide_eq_false (by omega)]; rfl
theorem opn_app (a b : List Int) (d : Int) : opn (a ++ b) d = (opn a d != opn b d) := by
  unfold opn
  rw [hits_app, par_add]
theorem opn_snoc (a : List Int) (t d : Int) : opn (a ++ [t]) d = if d % t = 0 then !opn a d else opn a d := by
  unfold opn
  rw [hits_app, hits_one]
  by_cases h : d % t = 0
  · rw [if_pos h, if_pos h, par_not]
  · rw [if_neg h, if_neg h]; rfl
theorem opn_rev (a : List Int) (d : Int) : opn a.reverse d = opn a d := by
  unfold opn hits
  rw [List.countP_reverse]
theorem opn_take {ts : List Int} {i : Nat} {t : Int} (h : ts[i]? = some t) (d : Int) : opn (ts.take (i + 1)) d = if d % t = 0 then !opn (ts.take i) d else opn (ts.take i) d := by
  rw [List.take_add_one, h]
  exact opn_snoc _ _ _
/-- the program's own word for it -/
theorem opn_len (ts : List Int) (d : Int) : decide (((ts.filter fun t => decide (d % t = 0)).length : Int) % 2 = 1) = opn ts d := by
  unfold opn hits
  rw [List.countP_eq_length_filter]
  by_cases h : (ts.filter fun t => decide (d % t = 0)).length % 2 = 1
  · rw [decide_eq_true h, decide_eq_true (by omega)]
  · rw [decide_eq_false h, decide_eq_false (by omega)]

/-! ### kept turners -/
/-- ks: those that stand in ts an odd count of times, rising -/
structure IsKept (ts ks : List Int) : Prop where
  rise : ks.Pairwise (· < ·)
  mem : ∀ x, x ∈ ks ↔ ts.count x % 2 = 1

theorem nodup_of_rise {ks : List Int} (h : ks.Pairwise (· < ·)) : ks.Nodup := h.imp (fun h e => by omega)
theorem rise_eq {a b : List Int} (ha : a.Pairwise (· < ·)) (hb : b.Pairwise (· < ·)) (h : ∀ x, x ∈ a ↔ x ∈ b) : a = b :=
  List.Perm.eq_of_pairwise (le := (· < ·)) (fun x y _ _ h1 h2 => by omega) ha hb ((List.perm_ext_iff_of_nodup (nodup_of_rise ha) (nodup_of_rise hb)).mpr h)
theorem IsKept.uniq {ts a b : List Int} (ha : IsKept ts a) (hb : IsKept ts b) : a = b := rise_eq ha.rise hb.rise fun x => (ha.mem x).trans (hb.mem x).symm
/-- the same counts, the same kept -/
theorem IsKept.of_par {ts us ks : List Int} (h : IsKept ts ks) (e : ∀ x, us.count x % 2 = ts.count x % 2) : IsKept us ks := ⟨h.rise, fun x => by rw [h.mem x, e x]⟩
theorem IsKept.self {ts ks : List Int} (h : IsKept ts ks) : IsKept ks ks := ⟨h.rise, fun x => by
  rw [(nodup_of_rise h.rise).count]
  by_cases e : x ∈ ks
  · simp [e]
  · simp [e]⟩
theorem IsKept.pos {ts ks : List Int} (h : IsKept ts ks) {P : Int → Prop} (hp : ∀ t ∈ ts, P t) : ∀ k ∈ ks, P k := fun k hk => hp k (List.count_pos_iff.mp (by
  have := (h.mem k).mp hk
  omega))

def tog : List Int → List Int
  | [] => []
  | t :: r => if t ∈ tog r then (tog r).erase t else t :: tog r
theorem tog_ok : ∀ ts : List Int, (tog ts).Nodup ∧ (∀ x, x ∈ tog ts ↔ ts.count x % 2 = 1) ∧ ∀ d, hits (tog ts) d % 2 = hits ts d % 2
  | [] => ⟨List.nodup_nil, fun x => by simp [tog], fun d => rfl⟩
  | t :: r => by
    obtain ⟨h1, h2, h3⟩ := tog_ok r
    unfold tog
    by_cases ht : t ∈ tog r
    · rw [if_pos ht]
      refine ⟨h1.erase t, fun x => ?_, fun d => ?_⟩
      · rw [h1.mem_erase_iff, h2 x, List.count_cons]
        have q := (h2 t).mp ht
        by_cases e : x = t
        · subst e
          simp
          omega
        · have e' : (t == x) = false := by simp; exact fun z => e z.symm
          simp [e, e']
      · have p := (List.perm_cons_erase ht).countP_eq fun t => decide (d % t = 0)
        have p' : hits (tog r) d = hits (t :: (tog r).erase t) d := p
        rw [hits_cons] at p'
        have q := h3 d
        rw [hits_cons]
        split at p' <;> split <;> omega
    · rw [if_neg ht]
      refine ⟨List.nodup_cons.mpr ⟨ht, h1⟩, fun x => ?_, fun d => ?_⟩
      · rw [List.mem_cons, h2 x, List.count_cons]
        have q : ¬ (r.count t % 2 = 1) := fun z => ht ((h2 t).mpr z)
        by_cases e : x = t
        · subst e
          simp
          omega
        · have e' : (t == x) = false := by simp; exact fun z => e z.symm
          simp [e, e']
      · rw [hits_cons, hits_cons]
        have q := h3 d
        split <;> omega
theorem IsKept.hits {ts ks : List Int} (h : IsKept ts ks) (d : Int) : hits ks d % 2 = hits ts d % 2 := by
  obtain ⟨h1, h2, h3⟩ := tog_ok ts
  have p : ks.Perm (tog ts) := (List.perm_ext_iff_of_nodup (nodup_of_rise h.rise) h1).mpr fun x => (h.mem x).trans (h2 x).symm
  have q : Dt.hits ks d = Dt.hits (tog ts) d := p.countP_eq _
  rw [q]
  exact h3 d
theorem IsKept.opn {ts ks : List Int} (h : IsKept ts ks) (d : Int) : opn ks d = opn ts d := by
  unfold Dt.opn
  rw [h.hits d]

/-! ### the two loops that find them, over the sorted turners -/
/-- the program's loop: after a front part of the sorted list, the odd ones of it, rising -/
structure LoInv (ts pre f : List Int) : Prop where
  rise : f.Pairwise (· < ·)
  mem : ∀ x, x ∈ f ↔ x ∈ pre ∧ ts.count x % 2 = 1
theorem LoInv.nil (ts : List Int) : LoInv ts [] [] := ⟨List.Pairwise.nil, fun x => by simp⟩
theorem LoInv.skip {ts pre f : List Int} {one : Int} (h : LoInv ts pre f) (hn : ¬ (ts.count one % 2 = 1 ∧ one ∉ f)) : LoInv ts (pre ++ [one]) f := ⟨h.rise, fun x => by
  rw [h.mem x, List.mem_append, List.mem_singleton]
  constructor
  · exact fun z => ⟨.inl z.1, z.2⟩
  · rintro ⟨z | z, w⟩
    · exact ⟨z, w⟩
    · subst z
      by_cases q : x ∈ f
      · exact (h.mem x).mp q
      · exact absurd ⟨w, q⟩ hn⟩
theorem LoInv.put {ts pre f : List Int} {one : Int} (h : LoInv ts pre f) (hs : ∀ x ∈ pre, x ≤ one) (h1 : ts.count one % 2 = 1) (h2 : one ∉ f) : LoInv ts (pre ++ [one]) (f ++ [one]) := by
  refine ⟨List.pairwise_append.mpr ⟨h.rise, List.pairwise_singleton _ _, fun a ha b hb => ?_⟩, fun x => ?_⟩
  · have e : b = one := List.mem_singleton.mp hb
    subst e
    have q := hs a ((h.mem a).mp ha).1
    by_cases e : a = b
    · subst e; exact absurd ha h2
    · omega
  · rw [List.mem_append, h.mem x, List.mem_append, List.mem_singleton]
    constructor
    · rintro (z | z)
      · exact ⟨.inl z.1, z.2⟩
      · subst z; exact ⟨.inr rfl, h1⟩
    · rintro ⟨z | z, w⟩
      · exact .inl ⟨z, w⟩
      · exact .inr z
theorem LoInv.kept {ts s f : List Int} (h : LoInv ts s f) (p : s.Perm ts) : IsKept ts f := ⟨h.rise, fun x => by
  rw [h.mem x]
  constructor
  · exact fun z => z.2
  · exact fun z => ⟨p.mem_iff.mpr (List.count_pos_iff.mp (by omega)), z⟩⟩

/-- the law's own loop: IsKept of the front part itself -/
theorem kept_nil : IsKept [] [] := ⟨List.Pairwise.nil, fun x => by simp⟩
theorem kept_pop {pre f : List Int} {one : Int} (h : IsKept pre (f ++ [one])) : IsKept (pre ++ [one]) f := by
  have hr := List.pairwise_append.mp h.rise
  refine ⟨hr.1, fun x => ?_⟩
  rw [List.count_append, List.count_singleton]
  have q := h.mem x
  rw [List.mem_append, List.mem_singleton] at q
  by_cases e : x = one
  · subst e
    have n : x ∉ f := fun z => by
      have := hr.2.2 x z x (List.mem_singleton.mpr rfl)
      omega
    have w := q.mp (.inr rfl)
    simp only [beq_self_eq_true, if_true]
    constructor
    · exact fun z => absurd z n
    · intro z; omega
  · have e' : (one == x) = false := by simp; exact fun z => e z.symm
    rw [e']
    constructor
    · exact fun z => q.mp (.inl z)
    · intro z
      rcases q.mpr z with w | w
      · exact w
      · exact absurd w e
theorem kept_push {pre f : List Int} {one : Int} (h : IsKept pre f) (hs : ∀ x ∈ pre, x ≤ one) (hl : f.getLast? ≠ some one) : IsKept (pre ++ [one]) (f ++ [one]) := by
  have n : one ∉ f := fun z => by
    have h1 : ∃ g l, f = g ++ [l] := by
      rcases List.eq_nil_or_concat f with e | ⟨g, l, e⟩
      · subst e; cases z
      · exact ⟨g, l, by rw [e, List.concat_eq_append]⟩
    obtain ⟨g, l, rfl⟩ := h1
    have hr := List.pairwise_append.mp h.rise
    rw [List.getLast?_concat] at hl
    rcases List.mem_append.mp z with w | w
    · have a := hr.2.2 one w l (List.mem_singleton.mpr rfl)
      have b := hs l (List.count_pos_iff.mp (by
        have := (h.mem l).mp (List.mem_append.mpr (.inr (List.mem_singleton.mpr rfl)))
        omega))
      omega
    · exact hl (by rw [List.mem_singleton.mp w])
  refine ⟨List.pairwise_append.mpr ⟨h.rise, List.pairwise_singleton _ _, fun a ha b hb => ?_⟩, fun x => ?_⟩
  · have e : b = one := List.mem_singleton.mp hb
    subst e
    have q := hs a (List.count_pos_iff.mp (by
      have := (h.mem a).mp ha
      omega))
    by_cases e : a = b
    · subst e; exact absurd ha n
    · omega
  · rw [List.mem_append, List.mem_singleton, h.mem x, List.count_append, List.count_singleton]
    by_cases e : x = one
    · subst e
      have w : ¬ (pre.count x % 2 = 1) := fun z => n ((h.mem x).mpr z)
      simp
      omega
    · have e' : (one == x) = false := by simp; exact fun z => e z.symm
      simp [e, e']
theorem kept_perm {s ts f : List Int} (h : IsKept s f) (p : s.Perm ts) : IsKept ts f := h.of_par fun x => by rw [p.count_eq]
theorem len_sub : ∀ {ks ts : List Int}, ks.Nodup → (∀ k ∈ ks, k ∈ ts) → ks.length ≤ ts.length
  | [], _, _, _ => Nat.zero_le _
  | k :: r, ts, nd, h => by
    obtain ⟨n1, n2⟩ := List.nodup_cons.mp nd
    have hk := h k List.mem_cons_self
    have ih := len_sub (ks := r) (ts := ts.erase k) n2 fun x hx => by
      have : x ≠ k := fun z => n1 (z ▸ hx)
      exact (List.mem_erase_of_ne this).mpr (h x (List.mem_cons_of_mem _ hx))
    rw [List.length_erase_of_mem hk] at ih
    have : 0 < ts.length := List.length_pos_of_mem hk
    rw [List.length_cons]
    omega
theorem IsKept.len {ts ks : List Int} (h : IsKept ts ks) : ks.length ≤ ts.length := len_sub (nodup_of_rise h.rise) (h.pos fun _ z => z)
/-- a look at written lists -/
def keptB (ts ks : List Int) : Bool := decide (ks.Pairwise (· < ·)) && ks.all (fun k => decide (ts.count k % 2 = 1)) && ts.all fun t => !decide (ts.count t % 2 = 1) || decide (t ∈ ks)
theorem kept_by {ts ks : List Int} (h : keptB ts ks = true) : IsKept ts ks := by
  unfold keptB at h
  simp only [Bool.and_eq_true, decide_eq_true_eq, List.all_eq_true, Bool.or_eq_true, Bool.not_eq_true', decide_eq_false_iff_not] at h
  obtain ⟨⟨h1, h2⟩, h3⟩ := h
  refine ⟨h1, fun x => ⟨h2 x, fun z => ?_⟩⟩
  rcases h3 x (List.count_pos_iff.mp (by omega)) with w | w
  · exact absurd z w
  · exact w
end Dt
namespace Dt
/-! ### the turners that bring told doors (k03) -/
/-- d's multiples: t goes into d, both from 1 on, so t ≤ d -/
theorem le_of_goes {t d : Int} (hd : 0 < d) (h : d % t = 0) : t ≤ d := Int.le_of_dvd hd (Int.dvd_of_emod_eq_zero h)
theorem hits_filter (ts : List Int) (d : Int) : hits ts d = (ts.filter fun t => decide (d % t = 0)).length := List.countP_eq_length_filter
/-- two rising rows that open the same doors up to n, all of them from 1 to n, are one -/
theorem same_rows {a b : List Int} {n : Int} (ha : a.Pairwise (· < ·)) (hb : b.Pairwise (· < ·)) (ra : ∀ x ∈ a, 1 ≤ x ∧ x ≤ n) (rb : ∀ x ∈ b, 1 ≤ x ∧ x ≤ n)
    (h : ∀ d : Int, 1 ≤ d → d ≤ n → opn a d = opn b d) : a = b := by
  have key : ∀ k : Nat, ∀ x : Int, 1 ≤ x → x ≤ k → x ≤ n → (x ∈ a ↔ x ∈ b) := by
    intro k
    induction k with
    | zero => intro x h1 h2; exact absurd h1 (by omega)
    | succ k ih =>
      intro x h1 h2 h3
      by_cases hx : x ≤ (k : Int)
      · exact ih x h1 hx h3
      · have ho := h x h1 h3
        unfold opn at ho
        have sp : ∀ l : List Int, l.Nodup → hits l x = (l.filter fun t => decide (x % t = 0) && decide (t ≠ x)).length + if x ∈ l then 1 else 0 := by
          intro l
          induction l with
          | nil => intro _; simp [hits_nil]
          | cons t r ihl =>
            intro nd
            obtain ⟨nt, nr⟩ := List.nodup_cons.mp nd
            rw [hits_cons, ihl nr, List.filter_cons]
            by_cases e : t = x
            · subst e
              have e1 : t % t = 0 := Int.emod_self
              simp [e1, nt]
            · by_cases g : x % t = 0
              · have e2 : x ≠ t := fun z => e z.symm
                simp [g, e, e2]
                omega
              · have e2 : x ≠ t := fun z => e z.symm
                simp [g, e2]
        have pa := sp a (nodup_of_rise ha)
        have pb := sp b (nodup_of_rise hb)
        have eq : (a.filter fun t => decide (x % t = 0) && decide (t ≠ x)) = (b.filter fun t => decide (x % t = 0) && decide (t ≠ x)) := by
          refine rise_eq (ha.filter _) (hb.filter _) fun y => ?_
          rw [List.mem_filter, List.mem_filter]
          constructor
          · rintro ⟨m, c⟩
            simp only [Bool.and_eq_true, decide_eq_true_eq] at c
            have l1 := le_of_goes (by omega) c.1
            exact ⟨(ih y (ra y m).1 (by omega) (by omega)).mp m, by simp [c.1, c.2]⟩
          · rintro ⟨m, c⟩
            simp only [Bool.and_eq_true, decide_eq_true_eq] at c
            have l1 := le_of_goes (by omega) c.1
            exact ⟨(ih y (rb y m).1 (by omega) (by omega)).mpr m, by simp [c.1, c.2]⟩
        rw [pa, pb, eq] at ho
        by_cases m1 : x ∈ a <;> by_cases m2 : x ∈ b
        · exact ⟨fun _ => m2, fun _ => m1⟩
        · rw [if_pos m1, if_neg m2] at ho
          exfalso
          rw [par_not] at ho
          revert ho
          rw [Nat.add_zero]
          cases decide ((b.filter fun t => decide (x % t = 0) && decide (t ≠ x)).length % 2 = 1) <;> simp
        · rw [if_neg m1, if_pos m2] at ho
          exfalso
          rw [par_not] at ho
          revert ho
          rw [Nat.add_zero]
          cases decide ((b.filter fun t => decide (x % t = 0) && decide (t ≠ x)).length % 2 = 1) <;> simp
        · exact ⟨fun z => absurd z m1, fun z => absurd z m2⟩
  refine rise_eq ha hb fun x => ?_
  constructor
  · intro m
    obtain ⟨h1, h2⟩ := ra x m
    exact (key x.toNat x h1 (by omega) h2).mp m
  · intro m
    obtain ⟨h1, h2⟩ := rb x m
    exact (key x.toNat x h1 (by omega) h2).mpr m

/-- the doors 1 .. n by a test, rising -/
def upto (n : Nat) : List Int := (List.range n).map fun i : Nat => 1 + (i : Int)
theorem mem_upto {n : Nat} {x : Int} : x ∈ upto n ↔ 1 ≤ x ∧ x ≤ n := by
  unfold upto
  rw [List.mem_map]
  constructor
  · rintro ⟨i, hi, rfl⟩
    have := List.mem_range.mp hi
    omega
  · intro h
    exact ⟨(x - 1).toNat, List.mem_range.mpr (by omega), by omega⟩
theorem upto_rise (n : Nat) : (upto n).Pairwise (· < ·) := by
  unfold upto
  rw [List.pairwise_map]
  exact List.pairwise_lt_range.imp fun h => by omega
theorem upto_succ (n : Nat) : upto (n + 1) = upto n ++ [1 + (n : Int)] := by
  unfold upto
  rw [List.range_succ, List.map_append]
  rfl
theorem upto_len (n : Nat) : (upto n).length = n := by
  unfold upto
  simp
/-- which of the first doors stand open -/
def opens (ts : List Int) (n : Nat) : List Int := (upto n).filter fun d => opn ts d
theorem mem_opens {ts : List Int} {n : Nat} {x : Int} : x ∈ opens ts n ↔ (1 ≤ x ∧ x ≤ n) ∧ opn ts x = true := by
  unfold opens
  rw [List.mem_filter, mem_upto]
theorem opens_rise (ts : List Int) (n : Nat) : (opens ts n).Pairwise (· < ·) := (upto_rise n).filter _
theorem opens_succ (ts : List Int) (n : Nat) : opens ts (n + 1) = if opn ts (1 + (n : Int)) = true then opens ts n ++ [1 + (n : Int)] else opens ts n := by
  unfold opens
  rw [upto_succ, List.filter_append]
  by_cases h : opn ts (1 + (n : Int)) = true
  · rw [if_pos h]; simp [h]
  · rw [if_neg h]; simp [h]
/-- a rising list of doors 1 .. n is told by its test -/
theorem opens_eq {ts D : List Int} {n : Nat} (hr : D.Pairwise (· < ·)) (hm : ∀ x ∈ D, 1 ≤ x ∧ x ≤ n) (h : ∀ d : Int, 1 ≤ d → d ≤ n → (opn ts d = true ↔ d ∈ D)) : opens ts n = D :=
  rise_eq (opens_rise ts n) hr fun x => by
    rw [mem_opens]
    constructor
    · rintro ⟨⟨h1, h2⟩, h3⟩
      exact (h x h1 h2).mp h3
    · intro m
      obtain ⟨h1, h2⟩ := hm x m
      exact ⟨⟨h1, h2⟩, (h x h1 h2).mpr m⟩

/-- the sieve's word behind i doors: F found so far; B: which doors are still due -/
structure Sv (D : List Int) (n i : Nat) (F : List Int) (B : Int → Bool) : Prop where
  rise : F.Pairwise (· < ·)
  rng : ∀ x ∈ F, 1 ≤ x ∧ x ≤ i
  due : ∀ d : Int, 1 ≤ d → d ≤ n → B d = (decide (d ∈ D) != opn F d)
  off : ∀ d : Int, 1 ≤ d → d ≤ i → B d = false
theorem Sv.start (D : List Int) (n : Nat) : Sv D n 0 [] (fun d => decide (d ∈ D)) := ⟨List.Pairwise.nil, (fun _ h => nomatch h), fun d _ _ => by rw [opn_nil]; simp, fun d h1 h2 => absurd h1 (by omega)⟩
theorem Sv.skip {D F : List Int} {n i : Nat} {B : Int → Bool} (h : Sv D n i F B) (hi : i < n) (hb : B (1 + (i : Int)) = false) : Sv D n (i + 1) F B :=
  ⟨h.rise, fun x m => by have := h.rng x m; omega, h.due, fun d h1 h2 => by
    by_cases e : d ≤ i
    · exact h.off d h1 e
    · have : d = 1 + (i : Int) := by omega
      rw [this]; exact hb⟩
theorem Sv.put {D F : List Int} {n i : Nat} {B : Int → Bool} (h : Sv D n i F B) (hi : i < n) (hb : B (1 + (i : Int)) = true) :
    Sv D n (i + 1) (F ++ [1 + (i : Int)]) (fun d => if d % (1 + (i : Int)) = 0 then !B d else B d) := by
  refine ⟨List.pairwise_append.mpr ⟨h.rise, List.pairwise_singleton _ _, fun a ha b hb => ?_⟩, fun x m => ?_, fun d h1 h2 => ?_, fun d h1 h2 => ?_⟩
  · have := h.rng a ha
    rw [List.mem_singleton.mp hb]; omega
  · rcases List.mem_append.mp m with m | m
    · have := h.rng x m; omega
    · rw [List.mem_singleton.mp m]; omega
  · rw [opn_snoc]
    by_cases g : d % (1 + (i : Int)) = 0
    · rw [if_pos g, if_pos g, h.due d h1 h2]
      cases decide (d ∈ D) <;> cases opn F d <;> rfl
    · rw [if_neg g, if_neg g]; exact h.due d h1 h2
  · by_cases e : d ≤ i
    · have g : ¬ d % (1 + (i : Int)) = 0 := fun z => by
        have := le_of_goes (by omega) z
        omega
      show (if d % (1 + (i : Int)) = 0 then !B d else B d) = false
      rw [if_neg g]; exact h.off d h1 e
    · have e1 : d = 1 + (i : Int) := by omega
      subst e1
      show (if (1 + (i : Int)) % (1 + (i : Int)) = 0 then !B (1 + (i : Int)) else B (1 + (i : Int))) = false
      rw [if_pos Int.emod_self, hb]; rfl
theorem Sv.done {D F : List Int} {n : Nat} {B : Int → Bool} (h : Sv D n n F B) : ∀ d : Int, 1 ≤ d → d ≤ n → (opn F d = true ↔ d ∈ D) := fun d h1 h2 => by
  have a := h.due d h1 h2
  rw [h.off d h1 h2] at a
  by_cases m : d ∈ D
  · rw [decide_eq_true m] at a
    cases q : opn F d
    · rw [q] at a; cases a
    · exact ⟨fun _ => m, fun _ => rfl⟩
  · rw [decide_eq_false m] at a
    cases q : opn F d
    · exact ⟨(fun z => nomatch z), fun z => absurd z m⟩
    · rw [q] at a; cases a

/-! ### two rows compared (k04) -/
theorem kept_app {a b k1 k2 k3 : List Int} (h1 : IsKept a k1) (h2 : IsKept b k2) (h3 : IsKept (a ++ b) k3) : k1 = k2 ↔ k3 = [] := by
  constructor
  · intro e
    subst e
    refine List.eq_nil_iff_forall_not_mem.mpr fun x m => ?_
    have q := (h3.mem x).mp m
    rw [List.count_append] at q
    by_cases z : x ∈ k1
    · have w1 := (h1.mem x).mp z
      have w2 := (h2.mem x).mp z
      omega
    · have w1 : ¬ (a.count x % 2 = 1) := fun w => z ((h1.mem x).mpr w)
      have w2 : ¬ (b.count x % 2 = 1) := fun w => z ((h2.mem x).mpr w)
      omega
  · intro e
    subst e
    refine rise_eq h1.rise h2.rise fun x => ?_
    have q : ¬ ((a ++ b).count x % 2 = 1) := fun w => by cases (h3.mem x).mpr w
    rw [List.count_append] at q
    rw [h1.mem, h2.mem]
    constructor <;> (intro z; omega)
theorem opn_below {ks : List Int} {x d : Int} (hr : (x :: ks).Pairwise (· < ·)) (hp : 0 < d) (hd : d < x) : opn (x :: ks) d = false := by
  unfold opn hits
  have e : (x :: ks).countP (fun t => decide (d % t = 0)) = 0 := by
    rw [List.countP_eq_zero]
    intro t ht
    have hx : x ≤ t := by
      rcases List.mem_cons.mp ht with e | m
      · omega
      · have := (List.pairwise_cons.mp hr).1 t m; omega
    simp only [decide_eq_true_eq]
    intro z
    have := le_of_goes hp z
    omega
  rw [e]; rfl
theorem opn_first {ks : List Int} {x : Int} (hr : (x :: ks).Pairwise (· < ·)) (hp : 0 < x) : opn (x :: ks) x = true := by
  unfold opn
  rw [hits_cons, if_pos Int.emod_self]
  have e : hits ks x = 0 := by
    unfold hits
    rw [List.countP_eq_zero]
    intro t ht
    have := (List.pairwise_cons.mp hr).1 t ht
    simp only [decide_eq_true_eq]
    intro z
    have := le_of_goes hp z
    omega
  rw [e]; rfl
end Dt
namespace Dt
/-! ### Euclid (common, both) -/
theorem gcd_step {a b : Int} (ha : 0 ≤ a) (hb : 0 < b) : Int.gcd b (a % b) = Int.gcd a b := by
  obtain ⟨m, rfl⟩ := Int.eq_ofNat_of_zero_le ha
  obtain ⟨n, rfl⟩ := Int.eq_ofNat_of_zero_le (Int.le_of_lt hb)
  show Nat.gcd n (m % n) = Nat.gcd m n
  rw [Nat.gcd_comm m n, Nat.gcd_rec n m, Nat.gcd_comm]
def lcmI (a b : Int) : Int := (Int.lcm a b : Nat)
theorem lcm_goes {a b d : Int} : d % lcmI a b = 0 ↔ d % a = 0 ∧ d % b = 0 := by
  unfold lcmI
  rw [← Int.dvd_iff_emod_eq_zero, ← Int.dvd_iff_emod_eq_zero, ← Int.dvd_iff_emod_eq_zero]
  constructor
  · intro h
    exact ⟨Int.dvd_trans (Int.dvd_lcm_left a b) h, Int.dvd_trans (Int.dvd_lcm_right a b) h⟩
  · rintro ⟨h1, h2⟩
    exact Int.coe_lcm_dvd h1 h2
theorem lcm_prog {a b : Int} (ha : 0 < a) (hb : 0 < b) : a / (Int.gcd a b : Nat) * b = lcmI a b := by
  obtain ⟨m, rfl⟩ := Int.eq_ofNat_of_zero_le (Int.le_of_lt ha)
  obtain ⟨n, rfl⟩ := Int.eq_ofNat_of_zero_le (Int.le_of_lt hb)
  show ((m : Int) / (Nat.gcd m n : Nat)) * (n : Int) = ((Nat.lcm m n : Nat) : Int)
  rw [← Int.natCast_ediv, ← Int.natCast_mul]
  congr 1
  unfold Nat.lcm
  rw [Nat.div_mul_right_comm (Nat.gcd_dvd_left m n)]
theorem gcd_pos {a b : Int} (ha : 0 < a) : 0 < ((Int.gcd a b : Nat) : Int) := by
  have : 0 < Int.gcd a b := Int.gcd_pos_of_ne_zero_left b (by omega)
  omega
theorem gcd_le_right {a b : Int} (hb : 0 < b) : ((Int.gcd a b : Nat) : Int) ≤ b := Int.le_of_dvd hb (Int.gcd_dvd_right a b)
theorem gcd_le_left {a b : Int} (ha : 0 < a) : ((Int.gcd a b : Nat) : Int) ≤ a := Int.le_of_dvd ha (Int.gcd_dvd_left a b)
theorem lcm_pos {a b : Int} (ha : 0 < a) (hb : 0 < b) : 0 < lcmI a b := by
  unfold lcmI
  have : 0 < Int.lcm a b := Int.lcm_pos (by omega) (by omega)
  omega
theorem lcm_le {a b : Int} (ha : 0 < a) (hb : 0 < b) : lcmI a b ≤ a * b := Int.le_of_dvd (Int.mul_pos ha hb) (Int.coe_lcm_dvd (Int.dvd_mul_right a b) (Int.dvd_mul_left a b))
theorem lcm_one (a : Int) (ha : 0 < a) : lcmI 1 a = a := by
  have h1 : lcmI 1 a ∣ a := Int.coe_lcm_dvd (Int.one_dvd a) (Int.dvd_refl a)
  have h2 : a ∣ lcmI 1 a := Int.dvd_lcm_right 1 a
  have p := lcm_pos (a := 1) (by decide) ha
  have := Int.le_of_dvd ha h1
  have := Int.le_of_dvd p h2
  omega

/-! ### how many (k05) -/
abbrev Term := Int × Int
def nextT (one : Int) (ts : List Term) : List Term := ts ++ ts.map fun p => (lcmI p.1 one, -2 * p.2)
def terms : List Int → List Term → List Term
  | [], ts => ts
  | k :: r, ts => terms r (nextT k ts)
/-- the terms' worth at one door -/
def tv (ts : List Term) (d : Int) : Int := (ts.map fun p => if d % p.1 = 0 then p.2 else 0).sum
/-- the terms' worth over n doors, as the program adds it up -/
def tw (ts : List Term) (n : Int) : Int := (ts.map fun p => p.2 * (n / p.1)).sum
theorem tv_app (a b : List Term) (d : Int) : tv (a ++ b) d = tv a d + tv b d := by
  unfold tv
  rw [List.map_append, List.sum_append]
theorem tv_lcm (one d : Int) : ∀ ts : List Term, tv (ts.map fun p => (lcmI p.1 one, -2 * p.2)) d = if d % one = 0 then -2 * tv ts d else 0
  | [] => by simp [tv]
  | p :: r => by
    have ih := tv_lcm one d r
    unfold tv at ih ⊢
    simp only [List.map_cons, List.sum_cons]
    rw [ih]
    by_cases h : d % one = 0
    · rw [if_pos h, if_pos h]
      by_cases g : d % p.1 = 0
      · rw [if_pos (lcm_goes.mpr ⟨g, h⟩), if_pos g]; omega
      · rw [if_neg (fun z => g (lcm_goes.mp z).1), if_neg g]; omega
    · rw [if_neg h, if_neg h, if_neg (fun z => h (lcm_goes.mp z).2)]; rfl
theorem tv_next (one d : Int) (ts : List Term) : tv (nextT one ts) d = if d % one = 0 then - tv ts d else tv ts d := by
  unfold nextT
  rw [tv_app, tv_lcm]
  split <;> omega
/-- 1 at a shut door, -1 at an open one -/
def sg (b : Bool) : Int := if b then -1 else 1
theorem sg_not (b : Bool) : sg (!b) = - sg b := by cases b <;> rfl
theorem tv_snoc {ts : List Term} {pre : List Int} {k d : Int} (h : tv ts d = sg (opn pre d)) : tv (nextT k ts) d = sg (opn (pre ++ [k]) d) := by
  rw [tv_next, opn_snoc, h]
  by_cases g : d % k = 0
  · rw [if_pos g, if_pos g, sg_not]
  · rw [if_neg g, if_neg g]
theorem tv_start (d : Int) : tv [(1, 1)] d = sg (opn [] d) := by
  rw [opn_nil]
  simp [tv, sg, Int.emod_one]
/-- how many of the first n doors stand open -/
def cnt (ts : List Int) : Nat → Nat
  | 0 => 0
  | n + 1 => cnt ts n + if opn ts (1 + (n : Int)) = true then 1 else 0
theorem cnt_opens (ts : List Int) : ∀ n, (opens ts n).length = cnt ts n
  | 0 => rfl
  | n + 1 => by
    rw [opens_succ, cnt, ← cnt_opens ts n]
    split <;> simp
theorem cnt_le (ts : List Int) : ∀ n, cnt ts n ≤ n
  | 0 => Nat.le_refl _
  | n + 1 => by
    have := cnt_le ts n
    rw [cnt]
    split <;> omega
theorem div_succ {n : Nat} {s : Int} (hs : 0 < s) : ((n : Int) + 1) / s = (n : Int) / s + if (1 + (n : Int)) % s = 0 then 1 else 0 := by
  obtain ⟨m, rfl⟩ := Int.eq_ofNat_of_zero_le (Int.le_of_lt hs)
  have e : ((n : Int) + 1) / (m : Int) = (((n + 1) / m : Nat) : Int) := by rw [Int.natCast_ediv]; rfl
  rw [e, Nat.succ_div]
  have e2 : ((n : Int)) / (m : Int) = ((n / m : Nat) : Int) := by rw [Int.natCast_ediv]
  rw [e2]
  have e3 : (m ∣ n + 1) ↔ (1 + (n : Int)) % (m : Int) = 0 := by
    rw [← Int.dvd_iff_emod_eq_zero, ← Int.natCast_dvd_natCast]
    have : ((n + 1 : Nat) : Int) = 1 + (n : Int) := by omega
    rw [this]
  by_cases h : m ∣ n + 1
  · rw [if_pos h, if_pos (e3.mp h)]; rfl
  · rw [if_neg h, if_neg (fun z => h (e3.mpr z))]; rfl
theorem tw_succ {n : Nat} : ∀ {ts : List Term}, (∀ p ∈ ts, 0 < p.1) → tw ts ((n : Int) + 1) = tw ts n + tv ts (1 + (n : Int))
  | [], _ => rfl
  | p :: r, h => by
    have ih := tw_succ (n := n) (ts := r) fun q hq => h q (List.mem_cons_of_mem _ hq)
    unfold tw tv at ih ⊢
    simp only [List.map_cons, List.sum_cons]
    rw [ih, div_succ (h p List.mem_cons_self)]
    by_cases g : (1 + (n : Int)) % p.1 = 0
    · rw [if_pos g, if_pos g, Int.mul_add, Int.mul_one]; omega
    · rw [if_neg g, if_neg g, Int.add_zero]; omega
theorem tw_zero : ∀ ts : List Term, tw ts 0 = 0
  | [] => rfl
  | p :: r => by
    have ih := tw_zero r
    unfold tw at ih ⊢
    simp only [List.map_cons, List.sum_cons]
    rw [ih]; simp
theorem tw_cnt {ts : List Term} {ks : List Int} (hp : ∀ p ∈ ts, 0 < p.1) (h : ∀ d, tv ts d = sg (opn ks d)) : ∀ n : Nat, tw ts n = (n : Int) - 2 * (cnt ks n : Int)
  | 0 => by rw [show ((0 : Nat) : Int) = 0 from rfl, tw_zero]; rfl
  | n + 1 => by
    have ih := tw_cnt hp h n
    rw [show ((n + 1 : Nat) : Int) = (n : Int) + 1 from rfl, tw_succ hp, ih, h, cnt]
    cases opn ks (1 + (n : Int)) <;> simp [sg] <;> omega
/-- the program's end: without the first term, by -2 -/
theorem tw_end {r : List Term} {ks : List Int} (hp : ∀ p ∈ r, 0 < p.1) (h : ∀ d, tv ((1, 1) :: r) d = sg (opn ks d)) (n : Nat) : (tw r n).fdiv (-2) = (cnt ks n : Int) := by
  have a := tw_cnt (ts := (1, 1) :: r) (fun p hm => by
    rcases List.mem_cons.mp hm with e | m
    · rw [e]; decide
    · exact hp p m) h n
  have b : tw ((1, 1) :: r) n = (n : Int) + tw r n := by
    unfold tw
    simp only [List.map_cons, List.sum_cons]
    simp
  rw [b] at a
  have c : tw r n = (cnt ks n : Int) * (-2) := by omega
  rw [c, Int.mul_fdiv_cancel _ (by decide)]
theorem nextT_head (k : Int) (r : List Term) : nextT k ((1, 1) :: r) = (1, 1) :: (r ++ (((1, 1) :: r).map fun p => (lcmI p.1 k, -2 * p.2))) := rfl
theorem nextT_pos {k : Int} {ts : List Term} (hk : 0 < k) (hp : ∀ p ∈ ts, 0 < p.1) : ∀ p ∈ nextT k ts, 0 < p.1 := fun p hm => by
  rcases List.mem_append.mp hm with m | m
  · exact hp p m
  · obtain ⟨q, hq, rfl⟩ := List.mem_map.mp m
    exact lcm_pos (hp q hq) hk

/-! ### the round -/
def rnd (ks : List Int) : Int := ks.foldl lcmI 1
theorem rnd_snoc (ks : List Int) (k : Int) : rnd (ks ++ [k]) = lcmI (rnd ks) k := by
  unfold rnd
  rw [List.foldl_append]; rfl
theorem foldl_lcm : ∀ (ks : List Int) (a : Int), 0 < a → (∀ k ∈ ks, 0 < k) → 0 < ks.foldl lcmI a ∧ ∀ d, d % (ks.foldl lcmI a) = 0 ↔ d % a = 0 ∧ ∀ k ∈ ks, d % k = 0
  | [], a, ha, _ => ⟨ha, fun d => by simp⟩
  | k :: r, a, ha, h => by
    obtain ⟨h1, h2⟩ := foldl_lcm r (lcmI a k) (lcm_pos ha (h k List.mem_cons_self)) fun q hq => h q (List.mem_cons_of_mem _ hq)
    refine ⟨h1, fun d => ?_⟩
    show d % (r.foldl lcmI (lcmI a k)) = 0 ↔ _
    rw [h2 d, lcm_goes]
    constructor
    · rintro ⟨⟨p, q⟩, s⟩
      exact ⟨p, fun x hx => (List.mem_cons.mp hx).elim (fun e => e ▸ q) (s x)⟩
    · rintro ⟨p, s⟩
      exact ⟨⟨p, s k List.mem_cons_self⟩, fun x hx => s x (List.mem_cons_of_mem _ hx)⟩
theorem rnd_pos {ks : List Int} (h : ∀ k ∈ ks, 0 < k) : 0 < rnd ks := (foldl_lcm ks 1 (by decide) h).1
theorem rnd_goes {ks : List Int} (h : ∀ k ∈ ks, 0 < k) (d : Int) : d % rnd ks = 0 ↔ ∀ k ∈ ks, d % k = 0 := by
  have := (foldl_lcm ks 1 (by decide) h).2 d
  unfold rnd
  rw [this]
  constructor
  · exact fun z => z.2
  · exact fun z => ⟨Int.emod_one d, z⟩
theorem into_rnd {ks : List Int} (h : ∀ k ∈ ks, 0 < k) : ∀ k ∈ ks, k ∣ rnd ks := fun k hk => Int.dvd_of_emod_eq_zero ((rnd_goes h (rnd ks)).mp Int.emod_self k hk)
theorem hits_shift {ks : List Int} {p : Int} (h : ∀ k ∈ ks, k ∣ p) (d : Int) : hits ks (d + p) = hits ks d := by
  unfold hits
  refine List.countP_congr fun k hk => ?_
  obtain ⟨c, rfl⟩ := h k hk
  simp only [decide_eq_true_eq]
  rw [Int.add_mul_emod_self_left]
theorem opn_shift {ks : List Int} {p : Int} (h : ∀ k ∈ ks, k ∣ p) (d : Int) : opn ks (d + p) = opn ks d := by
  unfold opn
  rw [hits_shift h]
theorem cnt_shift {ks : List Int} {L : Nat} (h : ∀ k ∈ ks, k ∣ (L : Int)) : ∀ m, cnt ks (L + m) = cnt ks L + cnt ks m
  | 0 => rfl
  | m + 1 => by
    rw [← Nat.add_assoc, cnt, cnt, cnt_shift h m]
    have e : (1 + ((L + m : Nat) : Int)) = (1 + (m : Int)) + (L : Int) := by omega
    rw [e, opn_shift h]
    omega
theorem cnt_mul {ks : List Int} {L : Nat} (h : ∀ k ∈ ks, k ∣ (L : Int)) (r : Nat) : ∀ q, cnt ks (q * L + r) = q * cnt ks L + cnt ks r
  | 0 => by simp
  | q + 1 => by
    rw [Nat.succ_mul, Nat.succ_mul, Nat.add_assoc, Nat.add_comm L r, ← Nat.add_assoc, Nat.add_comm _ L, cnt_shift h, cnt_mul h r q]
    omega

/-! ### no lesser round (k06) -/
theorem free_part (a : Nat) : ∀ n L : Nat, L ≤ n → 0 < L → ∃ c N, Nat.Coprime c a ∧ L ∣ c * a ^ N
  | 0, L, h, h0 => absurd h (by omega)
  | n + 1, L, h, h0 => by
    by_cases g : Nat.gcd L a = 1
    · exact ⟨L, 0, g, by rw [Nat.pow_zero, Nat.mul_one]; exact Nat.dvd_refl L⟩
    · have gp : 0 < Nat.gcd L a := Nat.gcd_pos_of_pos_left a h0
      obtain ⟨L1, e⟩ := Nat.gcd_dvd_left L a
      have l0 : 0 < L1 := Nat.pos_of_ne_zero fun z => by rw [z, Nat.mul_zero] at e; omega
      have l1 : L1 < L := by
        have : 2 * L1 ≤ Nat.gcd L a * L1 := Nat.mul_le_mul_right _ (by omega)
        omega
      obtain ⟨c, N, hc, hd⟩ := free_part a n L1 (by omega) l0
      refine ⟨c, N + 1, hc, ?_⟩
      have : Nat.gcd L a * L1 ∣ a * (c * a ^ N) := Nat.mul_dvd_mul (Nat.gcd_dvd_right L a) hd
      rw [← e] at this
      rw [Nat.pow_succ, ← Nat.mul_assoc, Nat.mul_comm (c * a ^ N) a]
      exact this
theorem lift_coprime {a m L : Nat} (hL : 0 < L) (h : Nat.Coprime a m) : ∃ j, Nat.Coprime (a + j * m) L := by
  obtain ⟨c, N, hc, hd⟩ := free_part a L L (Nat.le_refl L) hL
  refine ⟨c, ?_⟩
  have h1 : Nat.Coprime (a + c * m) c := by
    show Nat.gcd (a + c * m) c = 1
    rw [Nat.gcd_add_mul_left_left]
    exact hc.symm
  have h2 : Nat.Coprime (a + c * m) a := by
    show Nat.gcd (a + c * m) a = 1
    have e : a + c * m = c * m + a * 1 := by omega
    rw [e, Nat.gcd_add_mul_left_left]
    have : Nat.Coprime (c * m) a := (Nat.Coprime.mul_right hc.symm h).symm
    exact this
  exact Nat.Coprime.coprime_dvd_right hd (Nat.Coprime.mul_right h1 (Nat.Coprime.pow_right N h2))
theorem far_door {k p L : Nat} (hk : 0 < k) (hL : 0 < L) : ∃ j, ∀ s, s ∣ L → (s ∣ k + j * p ↔ s ∣ k ∧ s ∣ p) := by
  have hg : 0 < Nat.gcd k p := Nat.gcd_pos_of_pos_left p hk
  obtain ⟨j, hj⟩ := lift_coprime (L := L) hL (Nat.coprime_div_gcd_div_gcd hg)
  refine ⟨j, fun s hs => ⟨fun h => ?_, fun h => Nat.dvd_add h.1 (Nat.dvd_mul_left_of_dvd h.2 j)⟩⟩
  have e : k + j * p = Nat.gcd k p * (k / Nat.gcd k p + j * (p / Nat.gcd k p)) := by
    rw [Nat.mul_add, Nat.mul_div_cancel' (Nat.gcd_dvd_left k p), ← Nat.mul_assoc, Nat.mul_comm _ j, Nat.mul_assoc, Nat.mul_div_cancel' (Nat.gcd_dvd_right k p)]
  have c : Nat.Coprime s (k / Nat.gcd k p + j * (p / Nat.gcd k p)) := (Nat.Coprime.coprime_dvd_right hs hj).symm
  rw [e] at h
  have q := c.dvd_of_dvd_mul_right h
  exact Nat.dvd_gcd_iff.mp q
theorem goes_nat {t d : Nat} : ((d : Int) % (t : Int) = 0) ↔ t ∣ d := by rw [← Int.dvd_iff_emod_eq_zero, Int.natCast_dvd_natCast]
/-- in a rising row the least k that doesn't go into p: at the door k + j p just those of k's divisors that go into p count -/
theorem no_less {ks : List Int} {p : Int} (hr : ks.Pairwise (· < ·)) (hp : ∀ k ∈ ks, 0 < k) (h1 : 1 ≤ p) (hall : ∀ d : Int, 1 ≤ d → opn ks d = opn ks (d + p)) : ∀ k ∈ ks, k ∣ p := by
  have hj : ∀ (j : Nat) (d : Int), 1 ≤ d → opn ks d = opn ks (d + j * p) := by
    intro j
    induction j with
    | zero => intro d _; simp
    | succ j ih =>
      intro d hd
      have h0 : 0 ≤ (j : Int) * p := Int.mul_nonneg (by omega) (by omega)
      rw [ih d hd, hall (d + j * p) (by omega)]
      have e : ((j + 1 : Nat) : Int) * p = (j : Int) * p + p := by
        rw [show ((j + 1 : Nat) : Int) = (j : Int) + 1 from rfl, Int.add_mul, Int.one_mul]
      rw [e, Int.add_assoc]
  have key : ∀ n : Nat, ∀ k ∈ ks, k ≤ n → k ∣ p := by
    intro n
    induction n with
    | zero => intro k hk hn; have := hp k hk; omega
    | succ n ih =>
      intro k hk hn
      by_cases hlt : k ≤ n
      · exact ih k hk hlt
      · by_cases hd : k ∣ p
        · exact hd
        · exfalso
          have kp := hp k hk
          have Lp := rnd_pos hp
          obtain ⟨kn, ek⟩ := Int.eq_ofNat_of_zero_le (Int.le_of_lt kp)
          obtain ⟨pn, ep⟩ := Int.eq_ofNat_of_zero_le (show 0 ≤ p by omega)
          obtain ⟨Ln, eL⟩ := Int.eq_ofNat_of_zero_le (Int.le_of_lt Lp)
          obtain ⟨j, hjs⟩ := far_door (k := kn) (p := pn) (L := Ln) (by omega) (by omega)
          have a := hj j k (by omega)
          -- at k: those below that go into k and p, and k itself
          have e1 : hits ks (k + j * p) = (ks.filter fun t => decide (k % t = 0) && decide (p % t = 0)).length := by
            rw [hits_filter]
            refine congrArg List.length (List.filter_congr fun t ht => ?_)
            have tp := hp t ht
            obtain ⟨tn, et⟩ := Int.eq_ofNat_of_zero_le (Int.le_of_lt tp)
            have dl : tn ∣ Ln := by
              have := into_rnd hp t ht
              rw [et, eL] at this
              exact Int.natCast_dvd_natCast.mp this
            have q := hjs tn dl
            have w : (k + j * p) = ((kn + j * pn : Nat) : Int) := by
              rw [ek, ep]
              show (kn : Int) + (j : Int) * (pn : Int) = _
              rw [Int.natCast_add, Int.natCast_mul]
            rw [w, ek, ep, et]
            show decide (((kn + j * pn : Nat) : Int) % (tn : Int) = 0) = (decide ((kn : Int) % (tn : Int) = 0) && decide ((pn : Int) % (tn : Int) = 0))
            rw [Bool.eq_iff_iff, Bool.and_eq_true, decide_eq_true_eq, decide_eq_true_eq, decide_eq_true_eq, goes_nat, goes_nat, goes_nat]
            exact q
          have e2 : ∀ l : List Int, l.Nodup → (∀ t ∈ l, t ∈ ks) → hits l k = (l.filter fun t => decide (k % t = 0) && decide (p % t = 0)).length + if k ∈ l then 1 else 0 := by
            intro l
            induction l with
            | nil => intro _ _; simp [hits_nil]
            | cons t r ihl =>
              intro nd sub
              obtain ⟨nt, nr⟩ := List.nodup_cons.mp nd
              rw [hits_cons, ihl nr fun t ht => sub t (List.mem_cons_of_mem _ ht), List.filter_cons]
              have tk := sub t List.mem_cons_self
              by_cases e : t = k
              · subst e
                have f : ¬ p % t = 0 := fun z => hd (Int.dvd_of_emod_eq_zero z)
                have f2 : t % t = 0 := Int.emod_self
                simp [f, f2, nt]
              · have e' : k ≠ t := fun z => e z.symm
                by_cases g : k % t = 0
                · have l1 := le_of_goes kp g
                  have g2 : p % t = 0 := Int.emod_eq_zero_of_dvd (ih t tk (by omega))
                  simp [g, g2, e']
                  omega
                · simp [g, e']
          have e3 := e2 ks (nodup_of_rise hr) fun _ h => h
          rw [if_pos hk] at e3
          unfold opn at a
          rw [e1, e3, par_not] at a
          revert a
          cases decide ((ks.filter fun t => decide (k % t = 0) && decide (p % t = 0)).length % 2 = 1) <;> simp
  intro k hk
  exact key k.toNat k hk (by have := hp k hk; omega)
/-- a number below the round is no round: some of the first doors, as many as the round, tells -/
theorem round_least {ks : List Int} {p : Int} (hr : ks.Pairwise (· < ·)) (hp : ∀ k ∈ ks, 0 < k) (h1 : 1 ≤ p) (h2 : p < rnd ks) : ¬ ∀ d : Int, 1 ≤ d → d ≤ rnd ks → opn ks d = opn ks (d + p) := by
  intro h
  have Lp := rnd_pos hp
  have inL := into_rnd hp
  have all : ∀ (n : Nat) (d : Int), 1 ≤ d → d ≤ n → opn ks d = opn ks (d + p) := by
    intro n
    induction n with
    | zero => intro d a b; omega
    | succ n ih =>
      intro d a b
      by_cases c : d ≤ rnd ks
      · exact h d a c
      · have q := ih (d - rnd ks) (by omega) (by omega)
        have s1 := opn_shift inL (d - rnd ks)
        have s2 := opn_shift inL (d - rnd ks + p)
        rw [show d - rnd ks + rnd ks = d by omega] at s1
        rw [show d - rnd ks + p + rnd ks = d + p by omega] at s2
        rw [s1, s2, q]
  have k := no_less hr hp h1 fun d hd => all d.toNat d hd (by omega)
  have z := (rnd_goes hp p).mpr fun x hx => Int.emod_eq_zero_of_dvd (k x hx)
  have := Int.le_of_dvd (by omega) (Int.dvd_of_emod_eq_zero z)
  omega
theorem cnt_same {a b : List Int} (h : ∀ d, opn a d = opn b d) : ∀ n, cnt a n = cnt b n
  | 0 => rfl
  | n + 1 => by rw [cnt, cnt, cnt_same h n, h]
theorem cnt_one : ∀ n, cnt [1] n = n
  | 0 => rfl
  | n + 1 => by
    have : opn [1] (1 + (n : Int)) = true := by
      unfold opn
      rw [hits_one, if_pos (Int.emod_one _)]
      rfl
    rw [cnt, cnt_one n, if_pos this]
/-- the terms behind the first i turners -/
structure TmOk (B i : Nat) (ks : List Int) (ts : List Term) : Prop where
  hd : ∃ r, ts = (1, 1) :: r
  len : ts.length = 2 ^ i
  val : ∀ d, tv ts d = sg (opn (ks.take i) d)
  pos : ∀ p ∈ ts, 0 < p.1
  step : ∀ p ∈ ts, p.1.natAbs < 2 ^ (i * B + 1)
  oft : ∀ p ∈ ts, p.2.natAbs ≤ 2 ^ i
theorem TmOk.start (B : Nat) (ks : List Int) : TmOk B 0 ks [(1, 1)] where
  hd := ⟨[], rfl⟩
  len := rfl
  val := fun d => by rw [List.take_zero]; exact tv_start d
  pos := fun p hp => by rw [List.mem_singleton.mp hp]; decide
  step := fun p hp => by rw [List.mem_singleton.mp hp, Nat.zero_mul]; decide
  oft := fun p hp => by rw [List.mem_singleton.mp hp]; decide
theorem TmOk.next {B i : Nat} {ks : List Int} {ts : List Term} {k : Int} (h : TmOk B i ks ts) (hg : ks[i]? = some k) (hk : 0 < k) (hB : k.natAbs < 2 ^ B) : TmOk B (i + 1) ks (nextT k ts) where
  hd := by
    obtain ⟨r, rfl⟩ := h.hd
    exact ⟨_, nextT_head k r⟩
  len := by
    unfold nextT
    rw [List.length_append, List.length_map, h.len, Nat.pow_succ]
    omega
  val := fun d => by
    rw [List.take_add_one, hg]
    exact tv_snoc (h.val d)
  pos := nextT_pos hk h.pos
  step := fun p hp => by
    have e : (i + 1) * B + 1 = i * B + 1 + B := by rw [Nat.succ_mul]; omega
    rcases List.mem_append.mp hp with m | m
    · refine Nat.lt_of_lt_of_le (h.step p m) (Nat.pow_le_pow_right (by decide) (by omega))
    · obtain ⟨q, hq, rfl⟩ := List.mem_map.mp m
      have l := lcm_le (h.pos q hq) hk
      have l0 := lcm_pos (h.pos q hq) hk
      have w : (q.1 * k).natAbs < 2 ^ (i * B + 1) * 2 ^ B := by
        rw [Int.natAbs_mul]
        exact Nat.mul_lt_mul'' (h.step q hq) hB
      rw [← Nat.pow_add, ← e] at w
      refine Nat.lt_of_le_of_lt ?_ w
      show (lcmI q.1 k).natAbs ≤ _
      omega
  oft := fun p hp => by
    have e : (2 : Nat) ^ (i + 1) = 2 ^ i * 2 := Nat.pow_succ ..
    rcases List.mem_append.mp hp with m | m
    · have := h.oft p m
      omega
    · obtain ⟨q, hq, rfl⟩ := List.mem_map.mp m
      have := h.oft q hq
      show (-2 * q.2).natAbs ≤ _
      rw [Int.natAbs_mul]
      show 2 * q.2.natAbs ≤ _
      omega
end Dt
namespace Dt
/-! ### the root (k07) -/
structure IsRoot (n r : Int) : Prop where
  nn : 0 ≤ r
  le : r * r ≤ n
  lt : n < (r + 1) * (r + 1)
theorem sq_mono {a b : Int} (ha : 0 ≤ a) (h : a ≤ b) : a * a ≤ b * b := Int.mul_le_mul h h ha (by omega)
theorem IsRoot.uniq {n r s : Int} (hr : IsRoot n r) (hs : IsRoot n s) : r = s := by
  have h1 := hr.le; have h2 := hr.lt; have h3 := hs.le; have h4 := hs.lt
  have p := hr.nn; have q := hs.nn
  by_cases a : r < s
  · have := sq_mono (a := r + 1) (b := s) (by omega) (by omega)
    omega
  · by_cases b : s < r
    · have := sq_mono (a := s + 1) (b := r) (by omega) (by omega)
      omega
    · omega
theorem IsRoot.sq {r : Int} (h : 0 ≤ r) : IsRoot (r * r) r := ⟨h, Int.le_refl _, by
  have : (r + 1) * (r + 1) = r * r + 2 * r + 1 := by
    rw [Int.add_mul, Int.mul_add, Int.one_mul, Int.mul_one]; omega
  omega⟩
theorem IsRoot.sq_less {r : Int} (h : 0 < r) : IsRoot (r * r - 1) (r - 1) := ⟨by omega, by
  have : (r - 1) * (r - 1) = r * r - 2 * r + 1 := by
    rw [Int.sub_mul, Int.mul_sub, Int.one_mul, Int.mul_one]; omega
  omega, by rw [show r - 1 + 1 = r by omega]; omega⟩
theorem le_sq {h n : Int} (h1 : 1 ≤ h) (h2 : h * h ≤ n) : h ≤ n := by
  have : h * 1 ≤ h * h := Int.mul_le_mul_of_nonneg_left h1 (by omega)
  omega

/-! ### a stretch of turners (k07) -/
def inR (f l d : Int) : Bool := decide (f ≤ d) && decide (d ≤ l)
def dv (f l n d : Int) : Bool := decide (n % d = 0) && inR f l d
def pa (f l n at_ d : Int) : Bool := dv f l n d && (decide (d < at_) || decide (n / d < at_))
/-- those of the stretch that go into n, told so far; all of them -/
def cS (f l n at_ : Int) : Nat := (upto n.toNat).countP (pa f l n at_)
def cA (f l n : Int) : Nat := (upto n.toNat).countP (dv f l n)
theorem upto_nodup (n : Nat) : (upto n).Nodup := nodup_of_rise (upto_rise n)
theorem countP_one {l : List Int} {p q : Int → Bool} {x : Int} (nd : l.Nodup) (hx : x ∈ l) (px : p x = false) (h : ∀ d ∈ l, q d = (p d || decide (d = x))) : l.countP q = l.countP p + 1 := by
  induction l with
  | nil => cases hx
  | cons t r ih =>
    obtain ⟨nt, nr⟩ := List.nodup_cons.mp nd
    rw [List.countP_cons, List.countP_cons]
    have ht := h t List.mem_cons_self
    by_cases e : t = x
    · subst e
      have same : r.countP q = r.countP p := List.countP_congr fun d hd => by
        have : d ≠ t := fun z => nt (z ▸ hd)
        rw [h d (List.mem_cons_of_mem _ hd)]; simp [this]
      rw [same, ht, px]; simp
    · have hx' : x ∈ r := (List.mem_cons.mp hx).resolve_left fun z => e z.symm
      have a := ih nr hx' fun d hd => h d (List.mem_cons_of_mem _ hd)
      rw [a, ht]
      simp [e]
      omega
theorem cS_start (f l n : Int) : cS f l n 1 = 0 := by
  unfold cS
  rw [List.countP_eq_zero]
  intro d hd
  have h := mem_upto.mp hd
  unfold pa
  have a : ¬ d < 1 := by omega
  have b : ¬ n / d < 1 := by
    have : 1 ≤ n / d := (Int.le_ediv_iff_mul_le (by omega)).mpr (by omega)
    omega
  simp [a, b]
theorem mul_div_self {a e : Int} (ha : 0 < a) : a * e / a = e := Int.mul_ediv_cancel_left e (by omega)
theorem cS_none {f l n at_ : Int} (h1 : 1 ≤ at_) (hg : ¬ n % at_ = 0) : cS f l n (at_ + 1) = cS f l n at_ := by
  unfold cS
  refine List.countP_congr fun d hd => ?_
  have h := mem_upto.mp hd
  unfold pa dv
  by_cases g : n % d = 0
  · have a : d ≠ at_ := fun z => hg (z ▸ g)
    have b : n / d ≠ at_ := fun z => hg (by
      have e : d * (n / d) = n := Int.mul_ediv_cancel' (Int.dvd_of_emod_eq_zero g)
      rw [z] at e
      rw [← e]; exact Int.mul_emod_left d at_)
    have c1 : d < at_ + 1 ↔ d < at_ := by omega
    have c2 : n / d < at_ + 1 ↔ n / d < at_ := by omega
    simp [g, c1, c2]
  · simp [g]
theorem cS_step {f l at_ e : Int} (h1 : 1 ≤ at_) (h2 : at_ ≤ e) :
    cS f l (at_ * e) (at_ + 1) = cS f l (at_ * e) at_ + (if inR f l at_ = true then 1 else 0) + (if at_ < e then (if inR f l e = true then 1 else 0) else 0) := by
  have hn : 1 ≤ at_ * e := by
    have : 1 * 1 ≤ at_ * e := Int.mul_le_mul h1 (by omega) (by omega) (by omega)
    omega
  have hea : e ≤ at_ * e := by
    have : 1 * e ≤ at_ * e := Int.mul_le_mul_of_nonneg_right h1 (by omega)
    omega
  have m1 : at_ ∈ upto (at_ * e).toNat := mem_upto.mpr (by omega)
  have m2 : e ∈ upto (at_ * e).toNat := mem_upto.mpr (by omega)
  have d1 : at_ * e % at_ = 0 := Int.mul_emod_right at_ e
  have d2 : at_ * e % e = 0 := Int.mul_emod_left at_ e
  have q1 : at_ * e / at_ = e := mul_div_self (by omega)
  have q2 : at_ * e / e = at_ := Int.mul_ediv_cancel at_ (by omega)
  have p1 : pa f l (at_ * e) at_ at_ = false := by
    unfold pa
    rw [q1]
    have : ¬ e < at_ := by omega
    simp [this]
  have p2 : pa f l (at_ * e) at_ e = false := by
    unfold pa
    rw [q2]
    have : ¬ e < at_ := by omega
    simp [this]
  -- the test of the next turn
  have nx : ∀ d ∈ upto (at_ * e).toNat, pa f l (at_ * e) (at_ + 1) d = (pa f l (at_ * e) at_ d || (inR f l d && (decide (d = at_) || decide (d = e)))) := by
    intro d hd
    have h := mem_upto.mp hd
    unfold pa dv
    by_cases g : at_ * e % d = 0
    · have ed : d * (at_ * e / d) = at_ * e := Int.mul_ediv_cancel' (Int.dvd_of_emod_eq_zero g)
      have c2 : (at_ * e / d = at_) ↔ d = e := by
        constructor
        · intro z
          rw [z, Int.mul_comm d at_] at ed
          exact Int.eq_of_mul_eq_mul_left (by omega) ed
        · intro z
          rw [z]; exact q2
      have c1 : d < at_ + 1 ↔ d < at_ ∨ d = at_ := by omega
      have c3 : at_ * e / d < at_ + 1 ↔ at_ * e / d < at_ ∨ at_ * e / d = at_ := by omega
      have k1 : decide (d < at_ + 1) = (decide (d < at_) || decide (d = at_)) := by rw [Bool.eq_iff_iff]; simp [c1]
      have k2 : decide (at_ * e / d < at_ + 1) = (decide (at_ * e / d < at_) || decide (d = e)) := by rw [Bool.eq_iff_iff]; simp [c3, c2]
      rw [k1, k2, decide_eq_true g]
      cases inR f l d <;> cases decide (d < at_) <;> cases decide (d = at_) <;> cases decide (at_ * e / d < at_) <;> cases decide (d = e) <;> rfl
    · have a1 : d ≠ at_ := fun z => g (z ▸ d1)
      have a2 : d ≠ e := fun z => g (z ▸ d2)
      simp [g, a1, a2]
  unfold cS
  have nd := upto_nodup (at_ * e).toNat
  by_cases hlt : at_ < e
  · rw [if_pos hlt]
    by_cases i1 : inR f l at_ = true
    · -- at_ counts
      have s1 : (upto (at_ * e).toNat).countP (fun d => pa f l (at_ * e) at_ d || decide (d = at_)) = (upto (at_ * e).toNat).countP (pa f l (at_ * e) at_) + 1 := countP_one nd m1 p1 fun d _ => rfl
      by_cases i2 : inR f l e = true
      · have ne : e ≠ at_ := by omega
        have s2 : (upto (at_ * e).toNat).countP (pa f l (at_ * e) (at_ + 1)) = (upto (at_ * e).toNat).countP (fun d => pa f l (at_ * e) at_ d || decide (d = at_)) + 1 :=
          countP_one nd m2 (by simp [p2, ne]) fun d hd => by
            rw [nx d hd]
            by_cases z1 : d = at_
            · subst z1; simp [i1]
            · by_cases z2 : d = e
              · subst z2; simp [i2]
              · simp [z1, z2]
        rw [s2, s1, if_pos i1, if_pos i2]
      · have s2 : (upto (at_ * e).toNat).countP (pa f l (at_ * e) (at_ + 1)) = (upto (at_ * e).toNat).countP (fun d => pa f l (at_ * e) at_ d || decide (d = at_)) := List.countP_congr fun d hd => by
            rw [nx d hd]
            by_cases z1 : d = at_
            · subst z1; simp [i1]
            · by_cases z2 : d = e
              · subst z2; simp [i2, z1]
              · simp [z1, z2]
        rw [s2, s1, if_pos i1, if_neg i2]
    · by_cases i2 : inR f l e = true
      · have s2 : (upto (at_ * e).toNat).countP (pa f l (at_ * e) (at_ + 1)) = (upto (at_ * e).toNat).countP (pa f l (at_ * e) at_) + 1 :=
          countP_one nd m2 p2 fun d hd => by
            rw [nx d hd]
            by_cases z2 : d = e
            · subst z2; simp [i2]
            · by_cases z1 : d = at_
              · subst z1; simp [i1, z2]
              · simp [z1, z2]
        rw [s2, if_neg i1, if_pos i2]
      · have s2 : (upto (at_ * e).toNat).countP (pa f l (at_ * e) (at_ + 1)) = (upto (at_ * e).toNat).countP (pa f l (at_ * e) at_) := List.countP_congr fun d hd => by
            rw [nx d hd]
            by_cases z1 : d = at_
            · subst z1; simp [i1]
            · by_cases z2 : d = e
              · subst z2; simp [i2]
              · simp [z1, z2]
        rw [s2, if_neg i1, if_neg i2, Nat.add_zero]
  · have ee : e = at_ := by omega
    subst ee
    rw [if_neg hlt]
    by_cases i1 : inR f l e = true
    · have s2 : (upto (e * e).toNat).countP (pa f l (e * e) (e + 1)) = (upto (e * e).toNat).countP (pa f l (e * e) e) + 1 :=
        countP_one nd m1 p1 fun d hd => by
          rw [nx d hd]
          by_cases z1 : d = e
          · subst z1; simp [i1]
          · simp [z1]
      rw [s2, if_pos i1]
    · have s2 : (upto (e * e).toNat).countP (pa f l (e * e) (e + 1)) = (upto (e * e).toNat).countP (pa f l (e * e) e) := List.countP_congr fun d hd => by
          rw [nx d hd]
          by_cases z1 : d = e
          · subst z1; simp [i1]
          · simp [z1]
      rw [s2, if_neg i1, Nat.add_zero]
theorem cS_end {f l n at_ : Int} (h1 : 1 ≤ at_) (hn : n < at_ * at_) : cS f l n at_ = cA f l n := by
  unfold cS cA
  refine List.countP_congr fun d hd => ?_
  have h := mem_upto.mp hd
  unfold pa
  by_cases g : dv f l n d = true
  · have gd : n % d = 0 := by
      unfold dv at g
      simp only [Bool.and_eq_true, decide_eq_true_eq] at g
      exact g.1
    have ed : d * (n / d) = n := Int.mul_ediv_cancel' (Int.dvd_of_emod_eq_zero gd)
    have : d < at_ ∨ n / d < at_ := by
      by_cases a : d < at_
      · exact .inl a
      · refine .inr ?_
        by_cases b : n / d < at_
        · exact b
        · exfalso
          have : at_ * at_ ≤ d * (n / d) := Int.mul_le_mul (by omega) (by omega) (by omega) (by omega)
          omega
    rcases this with a | a <;> simp [g, a]
  · simp [g]
theorem countP_split {l : List Int} {p q r : Int → Bool} (h : ∀ d ∈ l, r d = (p d || q d) ∧ (p d && q d) = false) : l.countP r = l.countP p + l.countP q := by
  induction l with
  | nil => rfl
  | cons t l ih =>
    rw [List.countP_cons, List.countP_cons, List.countP_cons, ih fun d hd => h d (List.mem_cons_of_mem _ hd)]
    obtain ⟨a, b⟩ := h t List.mem_cons_self
    rw [a]
    cases x : p t <;> cases y : q t <;> simp [x, y] at b ⊢ <;> omega
/-- two stretches put together -/
theorem cA_join {f m l n : Int} (h1 : f ≤ m + 1) (h2 : m ≤ l) : cA f l n = cA f m n + cA (m + 1) l n := by
  unfold cA
  refine countP_split fun d _ => ?_
  unfold dv inR
  cases decide (n % d = 0)
  · exact ⟨rfl, rfl⟩
  · by_cases a : f ≤ d <;> by_cases b : d ≤ m <;> by_cases c : d ≤ l
    all_goals first
      | (have b' : ¬ (m + 1 ≤ d) := by omega
         simp [a, b, c, b']; done)
      | (have b' : m + 1 ≤ d := by omega
         simp [a, b, c, b']; done)
      | (exfalso; omega)
/-- the stretch from 1 to the door or beyond: an odd count just of a square -/
theorem cS_par {l n : Int} (hl : n ≤ l) (hn : 1 ≤ n) : ∀ k : Nat, ((k : Int)) * (k : Int) ≤ n → (cS 1 l n ((k : Int) + 1) % 2 = 1 ↔ (k : Int) * (k : Int) = n)
  | 0, _ => by
    have : cS 1 l n (((0 : Nat) : Int) + 1) = 0 := cS_start 1 l n
    rw [this]
    constructor
    · intro z; omega
    · intro z
      have : ((0 : Nat) : Int) * ((0 : Nat) : Int) = 0 := rfl
      omega
  | k + 1, hk => by
    have hkk : (k : Int) * (k : Int) < ((k + 1 : Nat) : Int) * ((k + 1 : Nat) : Int) := by
      have e : ((k + 1 : Nat) : Int) * ((k + 1 : Nat) : Int) = (k : Int) * (k : Int) + 2 * (k : Int) + 1 := by
        rw [show ((k + 1 : Nat) : Int) = (k : Int) + 1 from rfl, Int.add_mul, Int.mul_add, Int.one_mul, Int.mul_one]; omega
      omega
    have ih := cS_par hl hn k (by omega)
    have ev : ¬ (cS 1 l n ((k : Int) + 1) % 2 = 1) := fun z => by
      have := ih.mp z
      omega
    have e0 : ((k + 1 : Nat) : Int) = (k : Int) + 1 := rfl
    by_cases g : n % ((k : Int) + 1) = 0
    · have ed : ((k : Int) + 1) * (n / ((k : Int) + 1)) = n := Int.mul_ediv_cancel' (Int.dvd_of_emod_eq_zero g)
      have le1 : (k : Int) + 1 ≤ n / ((k : Int) + 1) := (Int.le_ediv_iff_mul_le (by omega)).mpr (by rw [← e0]; exact hk)
      have hle : n / ((k : Int) + 1) ≤ n := Int.ediv_le_self _ (by omega)
      have s := cS_step (f := 1) (l := l) (at_ := (k : Int) + 1) (e := n / ((k : Int) + 1)) (by omega) le1
      rw [ed] at s
      have i1 : inR 1 l ((k : Int) + 1) = true := by unfold inR; simp; omega
      have i2 : inR 1 l (n / ((k : Int) + 1)) = true := by unfold inR; simp; omega
      rw [if_pos i1, if_pos i2] at s
      rw [e0, s]
      by_cases lt : (k : Int) + 1 < n / ((k : Int) + 1)
      · rw [if_pos lt]
        have ne : ((k : Int) + 1) * ((k : Int) + 1) < n := by
          have : ((k : Int) + 1) * ((k : Int) + 1) < ((k : Int) + 1) * (n / ((k : Int) + 1)) := Int.mul_lt_mul_of_pos_left lt (by omega)
          omega
        constructor <;> (intro z; omega)
      · rw [if_neg lt]
        have eq : n / ((k : Int) + 1) = (k : Int) + 1 := by omega
        rw [eq] at ed
        constructor
        · intro _; exact ed
        · intro _; omega
    · rw [e0, cS_none (by omega) g]
      constructor
      · intro z; exact absurd z ev
      · intro z
        exfalso
        apply g
        rw [← z]
        exact Int.mul_emod_right _ _
theorem cA_square {l n r : Int} (hl : n ≤ l) (hn : 1 ≤ n) (hr : IsRoot n r) : (cA 1 l n % 2 = 1 ↔ r * r = n) := by
  obtain ⟨k, rfl⟩ := Int.eq_ofNat_of_zero_le hr.nn
  have a := cS_par hl hn k hr.le
  have b := cS_end (f := 1) (l := l) (n := n) (at_ := (k : Int) + 1) (by omega) hr.lt
  rw [b] at a
  exact a
/-- the law's own count, over the numbers of the stretch themselves -/
theorem cA_list {f l n : Int} (hf : 1 ≤ f) (k : Nat) (hk : (k : Int) = (if n < l then n else l) + 1 - f ∨ (k = 0 ∧ (if n < l then n else l) + 1 - f < 0)) :
    (List.range k).countP (fun i : Nat => decide (n % (f + (i : Int)) = 0)) = cA f l n := by
  unfold cA
  rw [List.countP_eq_length_filter, List.countP_eq_length_filter]
  have e : ((List.range k).filter fun i : Nat => decide (n % (f + (i : Int)) = 0)).map (fun i : Nat => f + (i : Int)) = (upto n.toNat).filter (dv f l n) := by
    refine rise_eq ?_ ((upto_rise _).filter _) fun x => ?_
    · rw [List.pairwise_map]
      exact (List.pairwise_lt_range.filter _).imp fun h => by omega
    · rw [List.mem_map, List.mem_filter, mem_upto]
      constructor
      · rintro ⟨i, hi, rfl⟩
        obtain ⟨h1, h2⟩ := List.mem_filter.mp hi
        have h1 := List.mem_range.mp h1
        unfold dv inR
        rw [h2]
        have : f + (i : Int) ≤ n ∧ f + (i : Int) ≤ l := by
          rcases hk with hk | hk
          · split at hk <;> omega
          · omega
        refine ⟨by omega, ?_⟩
        simp
        omega
      · rintro ⟨h1, h2⟩
        unfold dv inR at h2
        simp only [Bool.and_eq_true, decide_eq_true_eq] at h2
        refine ⟨(x - f).toNat, List.mem_filter.mpr ⟨List.mem_range.mpr ?_, ?_⟩, by omega⟩
        · rcases hk with hk | hk
          · split at hk <;> omega
          · obtain ⟨_, hk⟩ := hk
            split at hk <;> omega
        · have : f + (((x - f).toNat : Nat) : Int) = x := by omega
          rw [this]
          exact decide_eq_true h2.1
  rw [← e, List.length_map]
end Dt
/-! What serves every law: readings step by step (c_*), own rules. -/
namespace Dt
open PySem PySem.Spec PyProof.Rows L2 Evl
section
variable {σ : L2.St} {H : Hp} {i : Nat} {v x y z : V} {ta tb tc te : TE} {Q : VK} {D : Ends} {K : PySem.W.Frag} {ts tu tw : TS} {t u : TT} {QB : Bool → Hp → Prop} {QA : List V → Hp → Prop} {r r' : R2} {tr : TA} {E : XK} {sp : Sp} {dvs : List V}
theorem c_var (h : σ[i]? = some (some v)) (k : Q v H) : tVar i σ H Q := ⟨v, h, k⟩
theorem c_c (k : Q v H) : tC v σ H Q := k
theorem c_op (k : ta σ H fun x H1 => tb σ H1 fun y H2 => r x y H2 Q) : tOp r ta tb σ H Q := k
theorem c_un {ru : V → Hp → VK → Prop} (k : ta σ H fun x H1 => ru x H1 Q) : tUn ru ta σ H Q := k
theorem c_U {g : Int → V} {a : Int} (k : Q (g a) H) : rU g (.int a) H Q := ⟨a, rfl, k⟩
theorem c_I0 {g : Int → Int → V} {a b : Int} (k : Q (g a b) H) : rI0 g (.int a) (.int b) H Q := ⟨a, b, rfl, rfl, k⟩
theorem c_I {C : Int → Int → Prop} {g : Int → Int → V} {a b : Int} (hc : C a b) (k : Q (g a b) H) : rI C g (.int a) (.int b) H Q := ⟨a, b, rfl, rfl, hc, k⟩
theorem c_eqI {a b : Int} (k : Q (.bl (decide (a = b))) H) : rEq (.int a) (.int b) H Q := ⟨rfl, by
  have e : decide (V.int a = V.int b) = decide (a = b) := by rw [Bool.eq_iff_iff]; simp
  rw [e]; exact k⟩
theorem c_neI {a b : Int} (k : Q (.bl (!decide (a = b))) H) : rNe (.int a) (.int b) H Q := ⟨rfl, by
  have e : decide (V.int a = V.int b) = decide (a = b) := by rw [Bool.eq_iff_iff]; simp
  rw [e]; exact k⟩
theorem c_eqB {a b : Bool} (k : Q (.bl (decide (a = b))) H) : rEq (.bl a) (.bl b) H Q := ⟨rfl, by
  have e : decide (V.bl a = V.bl b) = decide (a = b) := by rw [Bool.eq_iff_iff]; simp
  rw [e]; exact k⟩
theorem c_neB {a b : Bool} (k : Q (.bl (!decide (a = b))) H) : rNe (.bl a) (.bl b) H Q := ⟨rfl, by
  have e : decide (V.bl a = V.bl b) = decide (a = b) := by rw [Bool.eq_iff_iff]; simp
  rw [e]; exact k⟩
theorem c_isB {a b : Bool} (k : Q (.bl (decide (a = b))) H) : rIsB (.bl a) (.bl b) H Q := ⟨a, b, rfl, rfl, k⟩
theorem c_notB {a b : Bool} (k : Q (.bl (!decide (a = b))) H) : rNotB (.bl a) (.bl b) H Q := ⟨a, b, rfl, rfl, k⟩
theorem c_cb {rc : List V → Hp → VK → Prop} (k : tr σ H fun vs H1 => rc vs H1 Q) : tCB rc tr σ H Q := k
theorem c_call (k : tr σ H fun vs H1 => sp (vs ++ dvs) H1 Q E) : tCall sp dvs E tr σ H Q := k
theorem c_nil (k : QA [] H) : tNil σ H QA := k
theorem c_cons (k : ta σ H fun x H1 => tr σ H1 fun xs H2 => QA (x :: xs) H2) : tCons ta tr σ H QA := k
theorem c_lst (k : tr σ H fun xs H1 => xs.length ≤ sizeLine ∧ ∀ p, H1 p = none → Q (.ref p) (upd H1 p (.lst xs))) : tLst tr σ H Q := k
theorem c_tup (k : tr σ H fun xs H1 => xs.length ≤ sizeLine ∧ ∀ p, H1 p = none → Q (.ref p) (upd H1 p (.tup xs))) : tTup tr σ H Q := k
theorem c_test (k : te σ H fun x H1 => ∃ b, x = .bl b ∧ QB b H1) : tTest te σ H QB := k
theorem c_B (k : te σ H fun x H1 => ∃ b, x = .bl b ∧ QB b H1) : tB te σ H QB := k
theorem c_k {R : Bool → Prop} {b : Bool} (k : R b) : ∃ c, V.bl b = .bl c ∧ R c := ⟨b, rfl, k⟩
theorem c_and (k : t σ H fun b H1 => if b = true then u σ H1 QB else QB false H1) : tAnd t u σ H QB := k
theorem c_or (k : t σ H fun b H1 => if b = true then QB true H1 else u σ H1 QB) : tOr t u σ H QB := k
theorem c_not (k : t σ H fun b H1 => QB (!b) H1) : tNot t σ H QB := k
theorem c_yes (k : QB true H) : tYes σ H QB := k
theorem c_andV (k : ta σ H fun x H1 => ∃ c, x = .bl c ∧ if c = true then tb σ H1 Q else Q (.bl false) H1) : tAndV ta tb σ H Q := k
theorem c_orV (k : ta σ H fun x H1 => ∃ c, x = .bl c ∧ if c = true then Q (.bl true) H1 else tb σ H1 Q) : tOrV ta tb σ H Q := k
theorem c_notV (k : ta σ H fun x H1 => ∃ c, x = .bl c ∧ Q (.bl (!c)) H1) : tNotV ta σ H Q := k
theorem c_if (k : t σ H fun b H1 => if b = true then ta σ H1 Q else tb σ H1 Q) : tIf t ta tb σ H Q := k
theorem c_chain (k : ta σ H fun x H1 => tb σ H1 fun y H2 => r x y H2 fun z H3 => ∃ k, z = .bl k ∧ (if k = true then tc σ H3 fun w' H4 => r' y w' H4 Q else Q (.bl false) H3)) : tChain r r' ta tb tc σ H Q := k
theorem c_sl {rs : V → Option Int → Option Int → Hp → VK → Prop} {tl th : TO} (k : te σ H fun x H1 => tl σ H1 fun l H2 => th σ H2 fun u H3 => rs x l u H3 Q) : tSl rs te tl th σ H Q := k
theorem c_rev (k : te σ H fun x H1 => ∃ a xs, x = .ref a ∧ SqL K H1 a xs ∧ ∀ p, H1 p = none → Q (.ref p) (upd H1 p (.lst xs.reverse))) : tRevL K te σ H Q := k
theorem c_bm {T : String} {rm : V → List V → Hp → VK → Prop} (k : te σ H fun x H1 => tyV K T x H1 ∧ tr σ H1 fun xs H2 => rm x xs H2 Q) : tBM K T rm te tr σ H Q := k
theorem c_noP {QO : Option Int → Hp → Prop} (k : QO none H) : tNoPart σ H QO := k
theorem c_part {QO : Option Int → Hp → Prop} (k : te σ H fun x H1 => ∃ i, x = .int i ∧ QO (some i) H1) : tPart te σ H QO := k
theorem c_ki {R : Int → Prop} {a : Int} (k : R a) : ∃ i, V.int a = .int i ∧ R i := ⟨a, rfl, k⟩
/-! statements -/
theorem c_seq (k : ts { D with nx := tu D } σ H) : tSeq ts tu D σ H := k
theorem c_asg (k : te σ H fun x H1 => D.nx (σ.set i (some x)) H1) : tAsg te (gName i) D σ H := k
theorem c_asgG {g : TG} (k : te σ H fun x H1 => g x σ H1 D.nx) : tAsg te g D σ H := k
theorem c_ret (k : te σ H D.rt) : tRet te D σ H := k
theorem c_drop (k : te σ H fun _ H1 => D.nx σ H1) : tDrop te D σ H := k
theorem c_ifS (k : t σ H fun b H1 => if b = true then ts D σ H1 else tu D σ H1) : tIfS t ts tu D σ H := k
theorem c_next (k : D.nx σ H) : tNext D σ H := k
theorem c_par {j : Nat} (k : tr σ H fun vs H1 => ∃ v w, vs = [v, w] ∧ D.nx ((σ.set i (some v)).set j (some w)) H1) : tPar i j tr D σ H := k
theorem c_kpar {R : V → V → Prop} {a b : V} (k : R a b) : ∃ v w, [a, b] = [v, w] ∧ R v w := ⟨a, b, rfl, k⟩
/-- what a for's body owes, once its iterator stands -/
def FL (J : It) (g : TG) (ts : TS) (D : Ends) (σ : L2.St) (H1 : Hp) : Prop := ∃ W : Nat → Nat → L2.St → Hp → Prop, (∃ m, W 0 m σ H1) ∧ ∀ i m σ H, W i m σ H →
  (J.stop i H ∧ D.nx σ H) ∨ (J.go i H ∧ ∃ N : L2.St → Hp → Prop, (∀ σ' H', N σ' H' → ∃ m', m' < m ∧ W (i + 1) m' σ' H') ∧ ∀ x H', J.yld i H x H' → g x σ H' fun σ2 H2 => ts { D with nx := N, ct := N, bk := D.nx } σ2 H2)
theorem c_for {wi : TI} {g : TG} (k : wi σ H fun J H1 => FL J g ts D σ H1) : tFor wi g ts D σ H := k
theorem f_list {a : Addr} {xs : List V} {g : TG} (Pv : Nat → L2.St → Hp → Prop) (h0 : Pv 0 σ H) (hl : ∀ i σ H, i ≤ xs.length → Pv i σ H → SqL K H a xs)
    (hs : ∀ i x σ H, xs[i]? = some x → Pv i σ H → g x σ H fun σ2 H2 => ts { D with nx := Pv (i + 1), ct := Pv (i + 1), bk := D.nx } σ2 H2) (hd : ∀ σ H, Pv xs.length σ H → D.nx σ H) : FL (Itl K a) g ts D σ H := for_list Pv h0 hl hs hd
theorem f_tup {a : Addr} {xs : List V} {g : TG} (Pv : Nat → L2.St → Hp → Prop) (h0 : Pv 0 σ H) (hl : ∀ i σ H, i ≤ xs.length → Pv i σ H → SqT K H a xs)
    (hs : ∀ i x σ H, xs[i]? = some x → Pv i σ H → g x σ H fun σ2 H2 => ts { D with nx := Pv (i + 1), ct := Pv (i + 1), bk := D.nx } σ2 H2) (hd : ∀ σ H, Pv xs.length σ H → D.nx σ H) : FL (Itt K a) g ts D σ H := for_tup Pv h0 hl hs hd
theorem f_range {lo : Int} {n : Nat} {g : TG} (Pv : Nat → L2.St → Hp → Prop) (h0 : Pv 0 σ H)
    (hs : ∀ i σ H, i < n → Pv i σ H → g (.int (lo + i)) σ H fun σ2 H2 => ts { D with nx := Pv (i + 1), ct := Pv (i + 1), bk := D.nx } σ2 H2) (hd : ∀ σ H, Pv n σ H → D.nx σ H) : FL (Itr lo n) g ts D σ H := for_range Pv h0 hs hd
theorem f_it {J : It} {n : Nat} {G : Hp → Prop} {Y : Nat → Hp → V → Hp → Prop} (w : Walk J n G Y) {g : TG} (Pv : Nat → L2.St → Hp → Prop) (h0 : Pv 0 σ H) (hG : ∀ i σ H, i ≤ n → Pv i σ H → G H)
    (hs : ∀ i x σ H H', i < n → Pv i σ H → Y i H x H' → g x σ H' fun σ2 H2 => ts { D with nx := Pv (i + 1), ct := Pv (i + 1), bk := D.nx } σ2 H2) (hd : ∀ σ H, Pv n σ H → D.nx σ H) : FL J g ts D σ H := for_it w Pv h0 hG hs hd
theorem c_iE {R : It → Hp → Prop} (k : tr σ H fun vs H1 => ∃ a xs, vs = [.ref a] ∧ SqL K H1 a xs ∧ R (Ite K a) H1) : iEnum K tr σ H R := k
theorem c_g {i : Nat} {R : L2.St → Hp → Prop} (k : R (σ.set i (some v)) H) : gName i v σ H R := k
theorem c_iL {R : It → Hp → Prop} (k : te σ H fun x H1 => ∃ a, x = .ref a ∧ (∃ xs, SqL K H1 a xs) ∧ R (Itl K a) H1) : iList K te σ H R := k
theorem c_iR1 {R : It → Hp → Prop} (k : tr σ H fun vs H1 => ∃ j : Int, vs = [.int j] ∧ -(2 ^ 62) ≤ j ∧ j < 2 ^ 62 ∧ R (Itr 0 j.toNat) H1) : iRng1 tr σ H R := k
theorem c_iR2 {R : It → Hp → Prop} (k : tr σ H fun vs H1 => ∃ i j : Int, vs = [.int i, .int j] ∧ (-(2 ^ 62) ≤ i ∧ i < 2 ^ 62 ∧ -(2 ^ 62) ≤ j ∧ j < 2 ^ 62) ∧ R (Itr i (j - i).toNat) H1) : iRng2 tr σ H R := k
/-! ways -/
theorem w_t {A B : Prop} {b : Bool} (hb : b = true) (h : A) : if b = true then A else B := by rw [if_pos hb]; exact h
theorem w_f {A B : Prop} {b : Bool} (hb : b = false) (h : B) : if b = true then A else B := by rw [if_neg (by rw [hb]; exact Bool.false_ne_true)]; exact h
theorem w_2 {A B : Prop} {b : Bool} (h1 : b = true → A) (h2 : b = false → B) : if b = true then A else B := by
  cases b with
  | true => exact w_t rfl (h1 rfl)
  | false => exact w_f rfl (h2 rfl)
end
/-! ### own rules -/
section
variable {X : Cx}
def rAbs : List V → Hp → VK → Prop := fun xs H Q => ∃ i, xs = [.int i] ∧ Q (.int (if i < 0 then -i else i)) H
def rMin2 : List V → Hp → VK → Prop := fun xs H Q => ∃ i j, xs = [.int i, .int j] ∧ Q (.int (if j < i then j else i)) H
theorem call_len_s : CallR X (.builtin "len") (rLenS X.K) := call_len_seq
theorem call_list_s : CallR X (.type "list") (rListS X.K) := call_list_of
theorem call_abs_s : CallR X (.builtin "abs") rAbs := call_abs
theorem call_min2_s (hc : X.calm = true) : CallR X (.builtin "min") rMin2 := call_min2 hc
theorem op_mulB : OpR X (binaryOp .Mult) (rI IntMulOk fun i j => .int (i * j)) := opI fun _ _ _ _ _ _ _ hc q => mul_int q hc
end
theorem bits_le {x : Int} {n : Nat} (h : x.natAbs < 2 ^ n) : Builtin.Int.intBits x ≤ n := by
  unfold Builtin.Int.intBits
  split
  · exact Nat.zero_le _
  · rename_i hx
    have h0 : x.natAbs ≠ 0 := fun z => hx (by simp [Int.natAbs_eq_zero.mp z])
    exact Nat.succ_le_of_lt ((Nat.log2_lt h0).mpr h)
theorem mulOk {i j : Int} {a b : Nat} (ha : i.natAbs < 2 ^ a) (hb : j.natAbs < 2 ^ b) (h : a + b ≤ 134000000) : IntMulOk i j := by
  have h1 := bits_le ha
  have h2 := bits_le hb
  have e : bitsLine = 134217728 := by decide
  unfold IntMulOk
  intro z
  rw [Bool.and_eq_true] at z
  have z2 := z.2
  unfold Builtin.Int.intTooBig at z2
  have z3 := of_decide_eq_true z2
  rw [e] at z3
  omega
/-- the built-ins' names are free -/
structure Blt (mg : Str → Option Value) : Prop where
  isinstance_ : mg "isinstance" = none
  len_ : mg "len" = none
  all_ : mg "all" = none
  any_ : mg "any" = none
  sum_ : mg "sum" = none
  abs_ : mg "abs" = none
  max_ : mg "max" = none
  min_ : mg "min" = none
  range_ : mg "range" = none
  sorted_ : mg "sorted" = none
  enumerate_ : mg "enumerate" = none
  int_ : mg "int" = none
  bool_ : mg "bool" = none
  list_ : mg "list" = none
  set_ : mg "set" = none
  str_ : mg "str" = none
  tuple_ : mg "tuple" = none
  ValueError_ : mg "ValueError" = none

/-! ### defs of the text: standing, kept -/
structure Df (K : PySem.W.Frag) (mg : Str → Option Value) (x : Str) (st : Stmt) (ps : List Str) : Prop where
  ex : ∃ (f : Addr) (fd : FuncData), Fun K x x st f fd ∧ mg x = some (.ref f) ∧ Binds K fd ps []
theorem df_mk {K : PySem.W.Frag} {mg : Str → Option Value} {h : Heap} {x : Str} {st : Stmt} {ps : List Str} {f : Addr} {oc : Value} {od an : Option Addr} {osl : Array (Option Value)} {kV doc pm cdv ct : Value} (X : K.In h) (G : h.Ns mainGlobals mg)
    (a : PySem.W.nsIn K mainGlobals x = some (some (.ref f))) (l : K.lookup f = some ⟨oc, od, .func (PySem.W.fnOf x x (defArgs st) (defBody st) (defScope st) .none kV doc pm an cdv ct), osl⟩) (c : PySem.W.codeIn K cdv x = true) (k : PySem.W.keepIn K (.ref f) = true)
    (hb : ∀ (kV doc pm : Value) (an : Option Addr) (cdv ct : Value) (us : List Value), us.length = ps.length → bindArgs (PySem.W.fnOf x x (defArgs st) (defBody st) (defScope st) .none kV doc pm an cdv ct) ⟨us, []⟩ = pure (ps.zip us)) : Df K mg x st ps :=
  ⟨f, _, fun_mk l c k, PySem.W.mg_of X G a, (fun_mk l c k).binds hb⟩
/-- what a def promises, callable by its name -/
structure Cal (P : Program) (w : World) (K : PySem.W.Frag) (mg : Str → Option Value) (base : Heap) (CX : CXT) (k : Nat) (x : Str) (sp : Sp) : Prop where
  ex : ∃ (f : Addr) (fd : FuncData) (ps : List Str), FnOk P w K mg base CX k f fd ps sp ∧ mg x = some (.ref f) ∧ PySem.W.keepIn K (.ref f) = true ∧ Binds K fd ps []
section
variable {P : Program} {w : World} {K : PySem.W.Frag} {mg : Str → Option Value} {base : Heap}
theorem Df.ok {x : Str} {st : Stmt} {N ps : List Str} {k : Nat} {sp : Sp} (F : Df K mg x st ps) (S : FnScope N ps (defScope st)) (len : ∀ vs H Q E, sp vs H Q E → vs.length = ps.length)
    (hbody : ∀ (f : Addr) (cdv : Value) (A : Around) (outer : List Env) (s : Shared) (H : Hp) (vs : List V) (Q : VK) (E : XK), Room k (A.deeper (envOfC x (defScope st) s.heap.objs.size f cdv)) → sp vs H Q E →
      ∃ t, PSs (cxOf CX0 P w K mg base N x (defScope st) f cdv A outer s H E).nox (defBody st) t ∧ t { nx := fun _ H' => Q .non H', rt := Q } (start N vs) H) : Cal P w K mg base CX0 (k + 1) x sp := by
  obtain ⟨f, fd, F, m, b⟩ := F.ex
  exact ⟨f, fd, ps, F.ok S len fun cdv A outer s H vs Q E => hbody f cdv A outer s H vs Q E, m, F.kp, b⟩
theorem Cal.mono {CX : CXT} {x : Str} {j k : Nat} {sp : Sp} (c : Cal P w K mg base CX j x sp) (h : j ≤ k) : Cal P w K mg base CX k x sp := by
  obtain ⟨f, fd, ps, F, r⟩ := c.ex
  exact ⟨f, fd, ps, F.mono h, r⟩
theorem Cal.imp {CX : CXT} {x : Str} {k : Nat} {sp sp' : Sp} (c : Cal P w K mg base CX k x sp) (h : ∀ vs H Q E, sp' vs H Q E → sp vs H Q E) : Cal P w K mg base CX k x sp' := by
  obtain ⟨f, fd, ps, F, r⟩ := c.ex
  exact ⟨f, fd, ps, F.imp h, r⟩
end
section
variable {X : Cx} {k j : Nat} {x : Str} {sp : Sp} {p pos : Pos} {e : Expr} {es : List Expr} {t : TA}
theorem pe_d (c : Cal X.prog X.w X.K X.mg X.base CX0 k x sp) (hr : Room j X.A) (hk : k ≤ j) (hg : Gl X x) (ha : PA X (e :: es) t)
    (hdb : (x == ("__debug__" : Str)) = false := by decide) (he : starEach (e :: es) X.env = (false, eval e X.env) :: starEach es X.env := by rfl) (hpl : (backTo pos (starEach es X.env)).any (·.1) = false := by rfl) :
    PE X (.Call (.Name x p) (e :: es) [] pos) (tCall sp [] E0 t) := by
  obtain ⟨f, fd, ps, F, hm, kp, b⟩ := c.ex
  exact pe_call F (hr.mono hk) hg hm kp b .nil pass0 ha hdb he hpl
theorem pe_d0 (c : Cal X.prog X.w X.K X.mg X.base CX0 k x sp) (hr : Room j X.A) (hk : k ≤ j) (hg : Gl X x)
    (hdb : (x == ("__debug__" : Str)) = false := by decide) : PE X (.Call (.Name x p) [] [] pos) (tCall sp [] E0 tNil) := by
  obtain ⟨f, fd, ps, F, hm, kp, b⟩ := c.ex
  exact pe_call0 F (hr.mono hk) hg hm kp b .nil pass0 hdb
end
/-! ### lists of ints -/
theorem intsD (ns : List Int) : ∀ K H, DpAll K H (ns.map V.int) (ns.map PyData.int) := by
  intro K H
  induction ns with
  | nil => exact .nil
  | cons n r ih => exact .cons (.int n) ih
theorem ints_lay : ∀ ns : List Int, PyData.canLayAll0 (ns.map PyData.int) = true
  | [] => rfl
  | n :: r => by
    have ih := ints_lay r
    simp [PyData.canLayAll0, PyData.canLay0, ih]
theorem ints_depth : ∀ ns : List Int, PyData.depthAll (ns.map PyData.int) ≤ 1
  | [] => by simp [PyData.depthAll]
  | n :: r => by
    have ih := ints_depth r
    simp [PyData.depthAll, PyData.depth]
    omega
theorem ints_shaped (ns : List Int) : SeqAt.shaped (.list (ns.map PyData.int)) = true := by
  unfold SeqAt.shaped
  have h1 := ints_lay ns
  have h2 := ints_depth ns
  simp [PyData.canLay0, PyData.depth, h1]
  omega
theorem ints_eqv : ∀ a b : List Int, PyData.eqvAll (a.map PyData.int) (b.map PyData.int) = decide (a = b)
  | [], [] => rfl
  | [], _ :: _ => by simp [PyData.eqvAll]
  | _ :: _, [] => by simp [PyData.eqvAll]
  | x :: a, y :: b => by
    have ih := ints_eqv a b
    rw [List.map_cons, List.map_cons, PyData.eqvAll, PyData.eqv, ih, Bool.eq_iff_iff]
    simp
section
variable {K : PySem.W.Frag} {H H' : Hp} {Q : VK} {a b : Addr} {xs ys : List Int}
theorem c_eqL (ha : SqL K H a (xs.map V.int)) (hb : SqL K H b (ys.map V.int)) (k : Q (.bl (decide (xs = ys))) H) : rEqD K (.ref a) (.ref b) H Q :=
  ⟨_, _, .lst ha (intsD xs K H), .lst hb (intsD ys K H), ints_shaped xs, ints_shaped ys, by
    rw [PyData.eqv, ints_eqv]; exact k⟩
theorem c_neL (ha : SqL K H a (xs.map V.int)) (hb : SqL K H b (ys.map V.int)) (k : Q (.bl (!decide (xs = ys))) H) : rNeD K (.ref a) (.ref b) H Q :=
  ⟨_, _, .lst ha (intsD xs K H), .lst hb (intsD ys K H), ints_shaped xs, ints_shaped ys, by
    rw [PyData.eqv, ints_eqv]; exact k⟩
theorem tyL {vs : List V} (h : SqL K H a vs) : TyX K H (.ref a) (.type "list") := by
  rcases h with (h | ⟨o, h⟩) | ⟨o, its, n, hk, hc, _⟩
  · exact .base (.lst h)
  · exact .base (.frz h)
  · exact .kList hk hc
/-- isinstance of a known kind -/
theorem c_isi {x : V} {T t : String} {r : Bool} (ty : TyX K H x (.type T)) (hk : kitB T t = some r) (k : Q (.bl r) H) : rIsi K [x, .ty t] H Q := ⟨x, .ty t, .type T, .type t, r, rfl, .ty t, ty, kit_ty hk, k⟩
theorem k_ii : kitB "int" "int" = some true := by decide +kernel
theorem k_ib : kitB "int" "bool" = some false := by decide +kernel
theorem k_bb : kitB "bool" "bool" = some true := by decide +kernel
theorem k_bi : kitB "bool" "int" = some true := by decide +kernel
theorem k_ll : kitB "list" "list" = some true := by decide +kernel
theorem c_isiI {n : Int} (k : Q (.bl true) H) : rIsi K [.int n, .ty "int"] H Q := c_isi (.base (.int n)) k_ii k
theorem c_isiIb {n : Int} (k : Q (.bl false) H) : rIsi K [.int n, .ty "bool"] H Q := c_isi (.base (.int n)) k_ib k
theorem c_isiB {n : Bool} (k : Q (.bl true) H) : rIsi K [.bl n, .ty "bool"] H Q := c_isi (.base (.bl n)) k_bb k
theorem c_isiL {vs : List V} (h : SqL K H a vs) (k : Q (.bl true) H) : rIsi K [.ref a, .ty "list"] H Q := c_isi (tyL h) k_ll k
theorem c_len {vs : List V} (h : SqL K H a vs) (k : Q (.int vs.length) H) : rLenS K [.ref a] H Q := ⟨a, vs, rfl, .inl h, k⟩
theorem c_list {vs : List V} (h : SqL K H a vs) (k : ∀ l, H l = none → Q (.ref l) (upd H l (.lst vs))) : rListS K [.ref a] H Q := ⟨a, vs, rfl, .inl h, k⟩
theorem c_abs {n : Int} (k : Q (.int n.natAbs) H) : rAbs [.int n] H Q := ⟨n, rfl, by rw [show (if n < 0 then -n else n) = (n.natAbs : Int) by split <;> omega]; exact k⟩
theorem c_min2 {m n : Int} (k : Q (.int (if n < m then n else m)) H) : rMin2 [.int m, .int n] H Q := ⟨m, n, rfl, k⟩
theorem c_sum (h : SqL K H a (xs.map V.int)) (k : Q (.int xs.sum) H) : rSum K [.ref a] H Q := ⟨a, xs, rfl, h, k⟩
theorem same_new {p : Addr} {o : HO} (h : H p = none) : Ex H (upd H p o) := Ex.new h
theorem abs_nn (n : Int) : (if n < 0 then -n else n) = (n.natAbs : Int) := by split <;> omega
end
/-- up to forty turners, from 1 on -/
structure Good (ts : List Int) : Prop where
  len : ts.length ≤ 40
  pos : ∀ t ∈ ts, 1 ≤ t
/-- a comprehension's list of ints, by its test -/
theorem given_filter (ts : List Int) (p : Int → Bool) : given ts.length (fun i => p (ts.getD i 0)) (fun i => V.int (ts.getD i 0)) = (ts.filter p).map V.int := by
  have key : ∀ (l : List Int), ((List.range l.length).filter fun i => p (l.getD i 0)).map (fun i => l.getD i 0) = l.filter p := by
    intro l
    induction l with
    | nil => rfl
    | cons x r ih =>
      rw [List.length_cons, List.range_succ_eq_map, List.filter_cons, List.filter_map]
      have e1 : ((fun i => p ((x :: r).getD i 0)) ∘ Nat.succ) = fun i => p (r.getD i 0) := by funext i; simp
      have e2 : ((fun i => (x :: r).getD i 0) ∘ Nat.succ) = fun i => r.getD i 0 := by funext i; simp
      rw [List.filter_cons]
      by_cases h : p x = true
      · have h' : p ((x :: r).getD 0 0) = true := by simpa using h
        rw [if_pos h', if_pos h, List.map_cons, List.map_map, e1, e2, ih]
        simp
      · have h' : ¬ p ((x :: r).getD 0 0) = true := by simpa using h
        rw [if_neg h', if_neg h, List.map_map, e1, e2, ih]
  unfold given
  rw [← key ts, List.map_map]
  rfl
theorem given_all (ts : List Int) (f : Int → Bool) : given ts.length (fun _ => true) (fun i => V.bl (f (ts.getD i 0))) = (ts.map f).map V.bl := by
  have key : ∀ (l : List Int), (List.range l.length).map (fun i => f (l.getD i 0)) = l.map f := by
    intro l
    induction l with
    | nil => rfl
    | cons x r ih =>
      rw [List.length_cons, List.range_succ_eq_map, List.map_cons, List.map_map, List.map_cons]
      have e2 : ((fun i => f ((x :: r).getD i 0)) ∘ Nat.succ) = fun i => f (r.getD i 0) := by funext i; simp
      rw [e2, ih]
      simp
  unfold given
  rw [← key ts, List.map_map]
  have : (List.range ts.length).filter (fun _ => true) = List.range ts.length := List.filter_eq_self.mpr fun _ _ => rfl
  rw [this]
  rfl
theorem getD_of {ts : List Int} {i : Nat} {x : V} (h : (ts.map V.int)[i]? = some x) : x = .int (ts.getD i 0) ∧ i < ts.length ∧ ts[i]? = some (ts.getD i 0) := by
  rw [List.getElem?_map] at h
  cases e : ts[i]? with
  | none => rw [e] at h; cases h
  | some n =>
    rw [e] at h
    have hi := (List.getElem?_eq_some_iff.mp e).1
    have e' : ts.getD i 0 = n := by rw [List.getD_eq_getElem?_getD, e]; rfl
    rw [e']
    exact ⟨(Option.some.inj h).symm, hi, rfl⟩
theorem getD_mem {ts : List Int} {i : Nat} (h : i < ts.length) : ts.getD i 0 ∈ ts := by
  rw [List.getD_eq_getElem?_getD, List.getElem?_eq_getElem h]
  exact List.getElem_mem h
/-! ### cuts, comprehensions over range(a, b) -/
theorem c_ev {te : TE} {σ : L2.St} {H : Hp} {Q : VK} (P : V → Hp → Prop) (h1 : ∀ Q' : VK, (∀ v H1, P v H1 → Q' v H1) → te σ H Q') (h2 : ∀ v H1, P v H1 → Q v H1) : te σ H Q := h1 Q h2
theorem c_ev2 {tt : TT} {σ : L2.St} {H : Hp} {Q : Bool → Hp → Prop} (P : Bool → Hp → Prop) (h1 : ∀ Q' : Bool → Hp → Prop, (∀ b H1, P b H1 → Q' b H1) → tt σ H Q') (h2 : ∀ b H1, P b H1 → Q b H1) : tt σ H Q := h1 Q h2
theorem el_lcR2 {σ : L2.St} {H : Hp} {te : TE} {t : TT} {ta : TA} {j : Nat} {vs : List Nat} {lo hi : Int} (f : Nat → Bool) (v : Nat → V) (h : EvA ta σ H [.int lo, .int hi]) (hb : -(2 ^ 61) ≤ lo ∧ lo ≤ 2 ^ 61 ∧ -(2 ^ 61) ≤ hi ∧ hi ≤ 2 ^ 61) (hn : (hi - lo).toNat ≤ 40000) (hw : ∀ x, wipe ((wipe σ vs).set j (some x)) vs = wipe σ vs)
    (ht : ∀ (i : Nat) H1, Ex H H1 → i < (hi - lo).toNat → EvT t ((wipe σ vs).set j (some (.int (lo + (i : Int))))) H1 (f i)) (he : ∀ (i : Nat) H1, Ex H H1 → i < (hi - lo).toNat → f i = true → Ev te ((wipe σ vs).set j (some (.int (lo + (i : Int))))) H1 (v i)) :
    EvL (tLc (iRng2 ta) (gName j) t te vs) σ H (given (hi - lo).toNat f v) := fun H0 e Q q => h H0 e _ fun H1 e1 => ⟨lo, hi, rfl, ⟨by omega, by omega, by omega, by omega⟩, fun Dl hD =>
  lc_range (lo := lo) (n := (hi - lo).toNat) (Cw H1 f v Dl) ⟨hD, Ex.new hD, upd_same⟩ (fun i H' hi' p => ⟨hw _, cw_turn p (by omega) (ht i H1 (e.trans e1) hi') (fun hf => he i H1 (e.trans e1) hi' hf)⟩) (fun H' p => q Dl H' (fresh_back e1 p.1) (e1.trans p.2.1) p.2.2)⟩
/-! ### sizes -/
def big : Nat := 1048600
theorem num_div {x j : Int} {n : Nat} (h : x.natAbs < 2 ^ n) : (x / j).natAbs < 2 ^ n := Nat.lt_of_le_of_lt (Int.natAbs_ediv_le_natAbs x j) h
theorem num_add {c y : Int} {n : Nat} (hc : c.natAbs < 2 ^ n) (hn : 64 ≤ n) (hy : y.natAbs < 2 ^ 64) : (c + y).natAbs < 2 ^ (n + 1) := by
  have h1 : (2 : Nat) ^ 64 ≤ 2 ^ n := Nat.pow_le_pow_right (by decide) hn
  have h2 : (2 : Nat) ^ (n + 1) = 2 ^ n + 2 ^ n := by rw [Nat.pow_succ]; omega
  have h3 : (c + y).natAbs ≤ c.natAbs + y.natAbs := Int.natAbs_add_le c y
  omega
theorem num_le {x : Int} {m n : Nat} (h : x.natAbs < 2 ^ m) (hmn : m ≤ n) : x.natAbs < 2 ^ n := Nat.lt_of_lt_of_le h (Nat.pow_le_pow_right (by decide) hmn)
theorem num_bits {x : Int} {n : Nat} (h : Builtin.Int.intBits x ≤ n) : x.natAbs < 2 ^ n := by
  unfold Builtin.Int.intBits at h
  split at h
  · rename_i hx
    have e : x = 0 := by simpa using hx
    subst e
    exact Nat.pow_pos (by decide)
  · rename_i hx
    have h0 : x.natAbs ≠ 0 := fun z => hx (by simp [Int.natAbs_eq_zero.mp z])
    exact (Nat.log2_lt h0).mp (by omega)
theorem num_sum : ∀ {l : List Int} {n : Nat}, (∀ z ∈ l, z.natAbs < 2 ^ n) → l.sum.natAbs ≤ l.length * 2 ^ n
  | [], n, _ => by simp
  | x :: r, n, h => by
    have ih := num_sum (l := r) (n := n) fun z hz => h z (List.mem_cons_of_mem _ hz)
    have hx := h x List.mem_cons_self
    have h3 : (x + r.sum).natAbs ≤ x.natAbs + r.sum.natAbs := Int.natAbs_add_le _ _
    rw [List.sum_cons, List.length_cons, Nat.succ_mul]
    omega
theorem num_sum63 {l : List Int} {n : Nat} (h : ∀ z ∈ l, z.natAbs < 2 ^ n) (hl : l.length ≤ 63) : l.sum.natAbs < 2 ^ (n + 6) := by
  have h1 := num_sum h
  have h2 : (2 : Nat) ^ (n + 6) = 64 * 2 ^ n := by rw [Nat.pow_add]; omega
  have h3 : l.length * 2 ^ n ≤ 63 * 2 ^ n := Nat.mul_le_mul_right _ hl
  have h4 : 0 < (2 : Nat) ^ n := Nat.pow_pos (by decide)
  omega
theorem cut63 {xs : List V} (h : xs.length ≤ 63) : cutV xs none (some 63) = xs := by
  unfold cutV
  rw [show HT.sIx xs.length xs.length (some 63) = min 63 xs.length from HT.sIx_nat xs.length xs.length 63, HT.sIx_none, Nat.min_eq_right h]
  simp
theorem atI_int {cs : List Int} {ix : Int} (h0 : 0 ≤ ix) (h1 : ix < cs.length) : atI (cs.map V.int) ix = some (.int (cs.getD ix.toNat 0)) := by
  obtain ⟨n, rfl⟩ := Int.eq_ofNat_of_zero_le h0
  refine atI_nat ?_
  have hn : n < cs.length := by omega
  rw [List.getElem?_map, Int.toNat_natCast, List.getD_eq_getElem?_getD, List.getElem?_eq_getElem hn]
  rfl
section
variable {K : PySem.W.Frag} {H H' : Hp} {Q : VK} {a b : Addr} {xs ys : List Int} {k : Int}
theorem in_ints (k : Int) : ∀ xs : List Int, inV (.int k) (xs.map V.int) = decide (k ∈ xs)
  | [] => rfl
  | x :: r => by
    have ih := in_ints k r
    unfold inV at ih ⊢
    rw [List.map_cons, List.any_cons, ih, Bool.eq_iff_iff]
    simp [eqV]
    constructor
    · rintro (z | z)
      · exact .inl z.symm
      · exact .inr z
    · rintro (z | z)
      · exact .inl z.symm
      · exact .inr z
theorem flat_ints (xs : List Int) : (xs.map V.int).all flatV = true := by
  rw [List.all_map, List.all_eq_true]
  intro x _
  rfl
theorem c_notIn (h : SqL K H a (xs.map V.int)) (q : Q (.bl (!decide (k ∈ xs))) H) : rIn K true (.int k) (.ref a) H Q := ⟨a, _, rfl, .inl h, rfl, flat_ints xs, by rw [if_pos rfl, in_ints]; exact q⟩
theorem c_cnt (h : SqL K H a (xs.map V.int)) (q : Q (.int (xs.count k : Nat)) H) : rCntI K (.ref a) [.int k] H Q := ⟨a, xs, k, rfl, rfl, h, q⟩
theorem tyLl {vs : List V} (h : SqL K H a vs) : tyV K "list" (.ref a) H := .inl ⟨rfl, vs, h⟩
theorem c_app {vs : List V} {v : V} (h : H a = some (.lst vs)) (hz : vs.length < 100000) (q : Q .non (upd H a (.lst (vs ++ [v])))) : rAppend (.ref a) [v] H Q := ⟨a, vs, v, rfl, rfl, h, sz_lt hz, q⟩
theorem c_cat {us vs : List V} (h : H a = some (.lst us)) (h' : H b = some (.lst vs)) (hz : us.length + vs.length ≤ 100000) (q : ∀ p, H p = none → Q (.ref p) (upd H p (.lst (us ++ vs)))) : rCat (.ref a) (.ref b) H Q := ⟨a, b, us, vs, rfl, rfl, h, h', sz_of hz, q⟩
end
theorem cut_last (fs : List Int) : cutV (fs.map V.int) (some (-1)) none = (fs.drop (fs.length - 1)).map V.int := by
  unfold cutV
  have e : HT.sIx (fs.map V.int).length 0 (some (-1)) = fs.length - 1 := by
    rw [List.length_map]
    unfold HT.sIx
    simp
    omega
  rw [e, HT.sIx_none, List.map_drop, List.length_map]
  exact List.take_of_length_le (by rw [List.length_drop, List.length_map]; omega)
theorem cut_init (g : List Int) (x : Int) : cutV ((g ++ [x]).map V.int) none (some (-1)) = g.map V.int := by
  unfold cutV
  have e : HT.sIx ((g ++ [x]).map V.int).length ((g ++ [x]).map V.int).length (some (-1)) = g.length := by
    rw [List.length_map, List.length_append]
    unfold HT.sIx
    simp
    omega
  rw [e, HT.sIx_none, List.map_append]
  simp
/-! ### whiles -/
theorem n_self {W : Nat → L2.St → Hp → Prop} {m : Nat} {R : (L2.St → Hp → Prop) → Prop} (h : R (fun σ' H' => ∃ m', m' < m ∧ W m' σ' H')) : ∃ N : L2.St → Hp → Prop, (∀ σ' H', N σ' H' → ∃ m', m' < m ∧ W m' σ' H') ∧ R N := ⟨_, fun _ _ z => z, h⟩
def wid : Nat := 9000
def far : Nat := 3000000
theorem given_true (n : Nat) (g : Nat → Bool) : given n (fun _ => true) (fun i => V.bl (g i)) = ((List.range n).map g).map V.bl := by
  unfold given
  have : (List.range n).filter (fun _ => true) = List.range n := List.filter_eq_self.mpr fun _ _ => rfl
  rw [this, List.map_map]
  rfl
theorem given_trueI (n : Nat) (g : Nat → Int) : given n (fun _ => true) (fun i => V.int (g i)) = ((List.range n).map g).map V.int := by
  unfold given
  have : (List.range n).filter (fun _ => true) = List.range n := List.filter_eq_self.mpr fun _ _ => rfl
  rw [this, List.map_map]
  rfl
section
variable {K : PySem.W.Frag} {H : Hp} {Q : VK} {a : Addr} {bs : List Bool}
theorem c_all (h : SqL K H a (bs.map V.bl)) (q : Q (.bl (bs.all id)) H) : rAll K [.ref a] H Q := ⟨a, bs, rfl, h, q⟩
theorem c_any (h : SqL K H a (bs.map V.bl)) (q : Q (.bl (bs.any id)) H) : rAny K [.ref a] H Q := ⟨a, bs, rfl, h, q⟩
end
theorem rnd_lt {ks : List Int} {B : Nat} (h : ∀ k ∈ ks, 0 < k ∧ k.natAbs < 2 ^ B) : ∀ i : Nat, (rnd (ks.take i)).natAbs < 2 ^ (i * B + 1) ∧ 0 < rnd (ks.take i)
  | 0 => by simp [rnd]
  | i + 1 => by
    obtain ⟨h1, h2⟩ := rnd_lt h i
    have le : 2 ^ (i * B + 1) ≤ 2 ^ ((i + 1) * B + 1) := Nat.pow_le_pow_right (by decide) (by rw [Nat.succ_mul]; omega)
    rw [List.take_add_one]
    cases e : ks[i]? with
    | none =>
      rw [Option.toList_none, List.append_nil]
      exact ⟨Nat.lt_of_lt_of_le h1 le, h2⟩
    | some k =>
      obtain ⟨k0, kB⟩ := h k (List.mem_of_getElem? e)
      rw [Option.toList_some, rnd_snoc]
      have p := lcm_pos h2 k0
      refine ⟨?_, p⟩
      have l := lcm_le h2 k0
      have w := wide_lt h1 kB
      have e2 : i * B + 1 + B = (i + 1) * B + 1 := by rw [Nat.succ_mul]; omega
      rw [e2] at w
      refine Nat.lt_of_le_of_lt ?_ w
      omega
theorem rnd_take {ks : List Int} {i : Nat} {k : Int} (h : ks[i]? = some k) : rnd (ks.take (i + 1)) = lcmI (rnd (ks.take i)) k := by
  rw [List.take_add_one, h]
  exact rnd_snoc _ _
def Bits (ns : List Int) : Prop := ∀ z ∈ ns, Builtin.Int.intBits z ≤ 1048576
def huge : Nat := 2100000
theorem num_dbl {n x : Int} {B : Nat} (hn : n.natAbs < 2 ^ B) (h0 : 0 ≤ n) (x0 : 0 ≤ x) (x1 : x ≤ 2 * n + 1) : x.natAbs < 2 ^ (B + 1) := by
  have e2 : (2 : Nat) ^ (B + 1) = 2 ^ B + 2 ^ B := by rw [Nat.pow_succ]; omega
  omega
theorem cut4 (ns : List Int) : cutV (ns.map V.int) none (some 4) = (ns.take 4).map V.int := by
  unfold cutV
  rw [show HT.sIx (ns.map V.int).length (ns.map V.int).length (some 4) = min 4 (ns.map V.int).length from HT.sIx_nat _ _ 4, HT.sIx_none, List.map_take]
  rw [List.drop_zero, Nat.sub_zero]
  by_cases h : 4 ≤ (ns.map V.int).length
  · rw [Nat.min_eq_left h]
  · rw [Nat.min_eq_right (by omega), List.take_length, List.take_of_length_le (by omega)]
theorem cut_tail (v : V) (vs : List V) : cutV (v :: vs) (some 1) none = vs := by
  unfold cutV
  rw [show HT.sIx (v :: vs).length 0 (some 1) = min 1 (v :: vs).length from HT.sIx_nat _ _ 1, HT.sIx_none, List.length_cons, Nat.min_eq_left (by omega)]
  show List.take (vs.length + 1 - 1) vs = vs
  rw [Nat.add_sub_cancel]
  exact List.take_length
end Dt
/-! sorted(set(xs)) of a list of ints, as one rule. -/
namespace Dt
open PySem PySem.Spec PyProof.Rows L2
section
variable {P : Program} {w : World} {A : Around} {E : Value → Shared → Prop} {s : Shared}
/-- an empty set as set.__new__ lays it -/
abbrev mtSet (w : World) : Obj := { cls := .type "set", dict := none, data := .set #[] 0 (.fresh 0 0 (!w.params.followText "set-order")) }
/-- what set.__init__ has done of a list of ints: the set at S is theirs, what stood before stands -/
def Filled (w : World) (s : Shared) (ns : List Int) (r : Value) (s2 : Shared) : Prop :=
  r = .none ∧ ∃ h2 tk2 c, s2 = { s with heap := h2, toks := tk2 } ∧ SetR w h2 s.heap.objs.size (fun j => decide (j ∈ ns)) c ∧ c ≤ ns.length ∧ ∀ b o, s.heap.get? b = some o → h2.get? b = some o
theorem fill_list {l : Addr} {its : Array Value} {ns : List Int} (calm : A.handled = none) (hl : s.heap.IsList l its) (hi : IntsAre its.toList ns) (few : ns.length + 1 < scanBound) :
    codeAny (model P w) A (.call (.builtin "set.__init__") ⟨[.ref s.heap.objs.size, .ref l], []⟩) (wants (Filled w s ns) E) { s with heap := s.heap.push (mtSet w) } := by
  have atS : (s.heap.push (mtSet w)).get? s.heap.objs.size = some (mtSet w) := Heap.get?_push_size _ rfl
  have tyS : Shared.TypeIs { s with heap := s.heap.push (mtSet w) } (.ref s.heap.objs.size) "set" := ⟨_, atS, rfl⟩
  have nIts : its.size = ns.length := by have q := IntsAre.length hi; rwa [Array.length_toList] at q
  refine codeAny_call_builtin F.called_set.init.plain F.entry_set_init (check_set_init_1 tyS ?_)
  obtain ⟨⟨c0, d0, t0, z0⟩, gl, cl, n0, dl⟩ := hl
  simp only at cl dl
  subst cl dl
  have gl2 : (s.heap.push (mtSet w)).get? l = some ⟨.type "list", d0, .seq its n0, z0⟩ := Heap.get?_push_of_some _ gl
  have il2 : (s.heap.push (mtSet w)).IsList l its := ⟨_, gl2, rfl, n0, rfl⟩
  have no1 := F.sub_list_set
  have no2 := F.sub_list_frozenset
  have no3 : (Value.type "list" == Value.type "dict") = false := by decide
  unfold Builtin.«set.__init__» noKeywords Builtin.Frozenset.updateFrom
  generalize eI : pyIter = itr
  wp_walk
  subst eI
  refine wpAny_pyIter_list il2 (wpAny_bind (wpAny_runValue ?_))
  have lS : l < s.heap.objs.size := Heap.lt_size gl
  have szS : (s.heap.push (mtSet w)).objs.size = s.heap.objs.size + 1 := Heap.size_push ..
  have calm3 : A.in1.in1.handled = none := by simp [calm]
  have apart : l ≠ (s.heap.push (mtSet w)).objs.size := by rw [szS]; exact Nat.ne_of_lt (Nat.lt_succ_of_lt lS)
  have notIn : s.heap.objs.size ∉ [(s.heap.push (mtSet w)).objs.size, l] := by
    rw [szS]
    intro z
    rcases List.mem_cons.mp z with e | e
    · exact absurd e (Nat.ne_of_lt (Nat.lt_succ_self _))
    · exact absurd (List.mem_singleton.mp e) (Nat.ne_of_gt lS)
  have vals : ∀ (i : Nat) (v : Value), its[i]? = some v → ∃ k t, ns[i]? = some k ∧ v = .int k t := fun i v hv => by
    have hin : i < ns.length := by rw [← nIts]; exact (Array.getElem?_eq_some_iff.mp hv).1
    obtain ⟨t, e⟩ := PyProof.Rows.IntsAre.int_at hi i v (by rw [Array.getElem?_toList]; exact hv)
    exact ⟨ns[i], t, List.getElem?_eq_getElem hin, by rw [e, List.getD_eq_getElem?_getD, List.getElem?_eq_getElem hin] <;> rfl⟩
  have st0 : ((s.heap.push (mtSet w)).push { cls := .type "list_iterator", data := .fields #[.ref l, .int 0 0] }).get? s.heap.objs.size = some (mtSet w) := Heap.get?_push_of_some _ atS
  refine set_update_ints ((Walks.list calm3 _ l apart its).toS) s.heap.objs.size notIn ns nIts few vals its.size 0 _ (by omega) (Nat.zero_le _)
    ?ini ?beg fun s2 c mv hc fin => ?_
  case ini => exact ⟨⟨_, Heap.get?_push_size _ rfl, rfl, rfl⟩, il2.push _⟩
  case beg => exact ⟨0, Nat.le_refl 0, setR_new_at st0⟩
  obtain ⟨h2, g2, d2, tk2, os2⟩ := s2
  obtain rfl : g2 = s.gens := mv.gens
  obtain rfl : d2 = s.drawn := mv.drawn
  obtain rfl : os2 = s.os := mv.os
  refine wpAny_pure ?_
  show wpAny _ _ (ret Value.none) _ _ _
  refine wpAny_pure ⟨rfl, h2, tk2, c, rfl, fin, by omega, fun b o e => ?_⟩
  have old : b < s.heap.objs.size := Heap.lt_size e
  refine mv.heap b o (fun z => ?_) (Heap.get?_push_of_some _ (Heap.get?_push_of_some _ e))
  rw [szS] at z
  rcases List.mem_cons.mp z with e2 | e2
  · exact absurd e2 (Nat.ne_of_lt old)
  · exact absurd (List.mem_singleton.mp e2) (Nat.ne_of_lt (Nat.lt_succ_of_lt old))
theorem set_of_list {l : Addr} {its : Array Value} {ns : List Int} {Q : Value → Shared → Prop} (calm : A.handled = none) (hl : s.heap.IsList l its) (hi : IntsAre its.toList ns) (few : ns.length + 1 < scanBound)
    (q : ∀ h2 tk2 c, SetR w h2 s.heap.objs.size (fun j => decide (j ∈ ns)) c → (∀ b o, s.heap.get? b = some o → h2.get? b = some o) → Q (.ref s.heap.objs.size) { s with heap := h2, toks := tk2 }) :
    wpAny (model P w) A (call (.type "set") [.ref l]) Q E s := by
  obtain ⟨c, tl, hmro⟩ := F.called_set.mro
  have k1 := F.called_set.made
  have k2 := F.called_set.sub
  have k3 := F.called_set.notType
  have k4 := F.called_set.canCreate
  have k5 := F.typeCall_set_1 (.ref l)
  have k6 := F.called_set.init.lookup
  have k7 := F.called_set.init.bind (.ref s.heap.objs.size)
  refine wpAny_call (codeAny_of_tree (wpAny_pure (a := _) ⟨Code.quiet_builtin _ (by decide +kernel), codeAny_builtin F.entry_type_call ?_⟩))
  rw [Around.under_plain (weight_type_call_type "set" [.ref l] []) rfl]
  repeat (any_goals (first | wp_step | assumption))
  refine codeAny_mono (code_set_led1 (.ref l) (E := E) (Q₁ := fun v s1 => v = .ref s.heap.objs.size ∧ s1 = { s with heap := s.heap.push (mtSet w) }) ⟨rfl, rfl⟩) fun r s1 hr => ?_
  match r, hr with
  | .error e, hr => exact hr
  | .ok .next, hr => exact hr.elim
  | .ok .brk, hr => exact hr.elim
  | .ok .cont, hr => exact hr.elim
  | .ok (.ret v), hr =>
    obtain ⟨rfl, rfl⟩ := hr
    have tyS : Shared.TypeIs { s with heap := s.heap.push (mtSet w) } (.ref s.heap.objs.size) "set" := ⟨_, Heap.get?_push_size _ rfl, rfl⟩
    repeat (any_goals (first | wp_step | assumption))
    refine codeAny_mono (fill_list (E := E) (by simpa using calm) hl hi few) fun r2 s2 hr2 => ?_
    match r2, hr2 with
    | .error e, hr => exact hr
    | .ok .next, hr => exact hr.elim
    | .ok .brk, hr => exact hr.elim
    | .ok .cont, hr => exact hr.elim
    | .ok (.ret v), hr =>
      obtain ⟨rfl, h2, tk2, c2, rfl, fin, _, old⟩ := hr
      repeat (any_goals (first | wp_step | assumption))
      exact q _ _ _ fin old
/-- sorted of a set of ints, of any size -/
theorem sorted_of_set {a : Addr} {S : Int → Bool} {n : Nat} {Q : Value → Shared → Prop} (R : SetR w s.heap a S n) (calm : A.handled = none)
    (q : ∀ s2 p (out : List Value) (c : Nat) (ns : List Int), (∀ b o, s.heap.get? b = some o → s2.heap.get? b = some o) → s2.gens = s.gens → s2.os = s.os → s.heap.objs.size ≤ p → s2.heap.get? p = some (seqObj "list" out.toArray c) → IntsAre out ns → ns.Pairwise (· < ·) → (∀ k, k ∈ ns ↔ S k = true) → ns.length ≤ sizeLine → Q (.ref p) s2) :
    wpAny (model P w) A (call (.builtin "sorted") [.ref a]) Q E s := by
  obtain ⟨o, es, ep, t, ho, hx, hd, good, nd, mem, few, fits, rfl, ris, led⟩ := R
  refine Calls.call_function_entry kind_sorted plain_sorted entry_sorted (args_sorted1 _) ?_
  unfold Builtin.«sorted»
  refine wpAny_bind (m := checkCount "sorted" 1 1 _) (wpAny_pure (wpAny_bind (collect_set (A := A.in1) (by simpa using calm) ⟨o, ho, hx.1, hd⟩ fits few ris led fun s1 vs old1 sz1 g1 o1 pm => ?_)))
  have lenV : vs.length = es.size := by rw [pm.length_eq, List.length_map, Array.length_toList]
  have zV : vs.length ≤ sizeLine := by rw [lenV]; exact fits_of_scanBound few
  have iV : IntsAre vs (vs.map Builtin.Re.reRawOf) := ints_of vs fun v hv => by
    obtain ⟨e, he, z⟩ := List.mem_map.mp (pm.mem_iff.mp hv)
    obtain ⟨k, tk, z1, _⟩ := good e he
    exact ⟨k, tk, z ▸ z1⟩
  have pK : (vs.map Builtin.Re.reRawOf).Perm (es.toList.map keyOf) := by
    have z := pm.map Builtin.Re.reRawOf
    rwa [List.map_map] at z
  refine wpAny_bind (wpAny_newList ?_ zV)
  have atL : (s1.heap.push (seqObj "list" vs.toArray 0)).get? s1.heap.objs.size = some (seqObj "list" vs.toArray 0) := Heap.get?_push_size _ rfl
  refine wpAny_bind (wpAny_holding (wpAny_call_entry slot_list_sort ⟨_, atL, rfl⟩ entry_list_sort (SrtO.list_sort_ord SrtO.swo_int atL zV (fun two => SrtO.ints_sortable iV two) fun out so st => ⟨_, rfl, ?_⟩) (args_list_sort _)))
  obtain ⟨i1, i2, i3⟩ := SrtO.ints_out iV so st
  obtain ⟨c, atO⟩ := sortedHeap_at (vs := vs) (out := out.toArray) atL
  have pn := i2.trans pK
  refine wpAny_pure ⟨_, rfl, q _ s1.heap.objs.size out c (out.map SrtO.iv) (fun b u e => ?_) g1 o1 sz1 atO i1 (lt_of_le_nodup _ i3 (pn.nodup_iff.mpr nd)) (fun k => by rw [pn.mem_iff, ← mem k]) (by rw [i2.length_eq, List.length_map]; exact zV)⟩
  have e1 := old1 b u e
  have lt1 := Heap.lt_size e1
  show (sortedHeap (s1.heap.push (seqObj "list" vs.toArray 0)) s1.heap.objs.size vs out.toArray).get? b = some u
  rw [sortedHeap_old (Nat.ne_of_lt lt1) (by rw [size_push']; exact Nat.lt_succ_of_lt lt1)]
  exact Heap.get?_push_of_some _ e1
end
/-! ### over the layer -/
section
variable {X : Cx}
/-- set(xs): a set of the list's ints -/
def rMkSet (K : PySem.W.Frag) (w : World) : List V → Hp → VK → Prop := fun vs H Q => ∃ (a : Addr) (ns : List Int), vs = [.ref a] ∧ SqL K H a (ns.map V.int) ∧ ns.length < 4000 ∧ ∀ p c, H p = none → Q (.ref p) (upd H p (SetO w p (fun j => decide (j ∈ ns)) c))
theorem call_set_s (hc : X.calm = true) : CallR X (.type "set") (rMkSet X.K X.w) := by
  intro pins s σ H vs us Q I r h
  obtain ⟨a, ns, rfl, hs, few, q⟩ := h
  obtain ⟨its, rv, hl, hz⟩ := I.list hs
  rw [Vals.ref1 r]
  refine set_of_list (I.ok.hd hc) hl.isList rv.ints (by unfold scanBound; omega) fun h2 tk2 c R old => ?_
  exact ⟨.ref _, _, I.laid (t' := tk2) old (Nat.le_refl _) (setO_new R), rfl, q _ c (I.hok.fresh (Nat.le_refl _))⟩
/-- sorted(the set) -/
def rSortSet (w : World) : List V → Hp → VK → Prop := fun vs H Q => ∃ (a : Addr) (S : Int → Bool) (n : Nat), vs = [.ref a] ∧ H a = some (SetO w a S n) ∧ ∀ (ns : List Int) (p : Addr), ns.Pairwise (· < ·) → (∀ k, k ∈ ns ↔ S k = true) → H p = none → Q (.ref p) (upd H p (.lst (ns.map V.int)))
theorem call_sorted_set (hc : X.calm = true) : CallR X (.builtin "sorted") (rSortSet X.w) := by
  intro pins s σ H vs us Q I r h
  obtain ⟨a, S, n, rfl, ha, q⟩ := h
  rw [Vals.ref1 r]
  refine sorted_of_set (setO_get I ha) (I.ok.hd hc) fun s2 p out c ns old g o hp atP hi hs hm zN => ?_
  have np : H p = none := I.hok.fresh hp
  have lenN : (ns.map V.int).length ≤ sizeLine := by rw [List.length_map]; exact zN
  have J : Inv X pins σ (upd H p (.lst (ns.map V.int))) { s with heap := s2.heap, gens := s2.gens, drawn := s2.drawn, toks := s2.toks } :=
    I.call (ch := []) (Un.laid old hp np) (I.hok.laid old hp ⟨lenN, out, c, vals_of_ints hi, atP⟩) (by rw [g]; exact I.bare) (fun _ z => nomatch z)
  have es : s2 = { s with heap := s2.heap, gens := s2.gens, drawn := s2.drawn, toks := s2.toks } := by
    obtain ⟨x1, x2, x3, x4, x5⟩ := s2
    obtain rfl : x5 = s.os := o
    rfl
  rw [es]
  exact ⟨.ref p, _, J, rfl, q ns p hs hm np⟩
end
theorem c_mkset {K : PySem.W.Frag} {w : World} {H : Hp} {Q : VK} {a : Addr} {ns : List Int} (h : SqL K H a (ns.map V.int)) (few : ns.length < 4000) (k : ∀ p o, (∃ c, o = SetO w p (fun j => decide (j ∈ ns)) c) → H p = none → Q (.ref p) (upd H p o)) : rMkSet K w [.ref a] H Q :=
  ⟨a, ns, rfl, h, few, fun p c np => k p _ ⟨c, rfl⟩ np⟩
theorem c_sortset {w : World} {H : Hp} {Q : VK} {a : Addr} {o : HO} {S : Int → Bool} (h : H a = some o) (ho : ∃ c, o = SetO w a S c) (k : ∀ (ns : List Int) (p : Addr), ns.Pairwise (· < ·) → (∀ k, k ∈ ns ↔ S k = true) → H p = none → Q (.ref p) (upd H p (.lst (ns.map V.int)))) : rSortSet w [.ref a] H Q := by
  obtain ⟨c, rfl⟩ := ho
  exact ⟨a, S, c, rfl, h, k⟩
/-! ### list(range(a, b)) -/
section
variable {σ : L2.St} {H : Hp} {Q : VK} {ta tb : TE}
theorem c_lstRg {te : L2.St → Hp → (Int → Int → Hp → Prop) → Prop} (k : te σ H fun a b H1 => RgOk a b ∧ ∀ q, H1 q = none → Q (.ref q) (upd H1 q (.lst (rgV a b)))) : tLstRg te σ H Q := k
theorem c_rg2 {R : Int → Int → Hp → Prop} (k : ta σ H fun x H1 => tb σ H1 fun y H2 => ∃ i j, x = .int i ∧ y = .int j ∧ R i j H2) : tRg2 ta tb σ H R := k
end
theorem rgV_upto (n : Nat) : rgV 1 ((n : Int) + 1) = (upto n).map V.int := by
  unfold rgV upto
  rw [show ((n : Int) + 1 - 1).toNat = n by omega, List.map_map]
  rfl
end Dt
/-! A class without own __init__ made; a method of an instance of one of two classes. -/
namespace Dt
open PySem PySem.Spec PyProof.Rows L2 Evl
/-- a class without an own __init__, to be made -/
structure Mk0 (K : PySem.W.Frag) (C : Addr) : Prop where
  makes : PySem.W.makesIn K C = true
  init : PySem.W.findIn K (.ref C) "__init__" = some (some (.builtin "object.__init__"))
  top : PySem.W.mroIn K C (.type "object") = some true
  kp : PySem.W.keepIn K (.ref C) = true
/-- C(): a new instance and its dict -/
def tMake0 (C : Addr) : TE := fun σ H Q => ∀ x dx, H x = none → H dx = none → dx ≠ x → Q (.ref x) (upd (upd H dx (.own x)) x (.ins C dx []))
section
variable {X : Cx} {C : Addr} {x m : Str} {p pos apos : Pos} {e o : Expr} {es : List Expr} {ta : TE} {t : TA}
theorem run_make0 {pins : List (Addr × Obj)} {σ : L2.St} {H : Hp} {s : Shared} {Q : VK} (M : Mk0 X.K C) (I : Inv X pins σ H s)
    (h : ∀ x dx, H x = none → H dx = none → dx ≠ x → Q (.ref x) (upd (upd H dx (.own x)) x (.ins C dx []))) :
    wpAny (model X.prog X.w) X.A (call (.ref C) []) (EP X pins σ Q) X.xe s := by
  have I2 := Inv.made (C := C) I
  have hq := h (s.heap.objs.size + 1) s.heap.objs.size (I.hok.fresh (Nat.le_succ _)) (I.hok.fresh (Nat.le_refl _)) (Nat.ne_of_lt (Nat.lt_succ_self _))
  refine wpAny_call (make_map0 I.kIn M.makes M.init (fun self => PySem.W.Looks.of_pure (PySem.W.oi_bind self)) ?_)
  have at2 : ((s.heap.push PySem.W.emptyDict).push (PySem.W.instObj C s.heap.objs.size)).get? (s.heap.objs.size + 1) = some (PySem.W.instObj C s.heap.objs.size) := by
    have := Heap.get?_push_size (s.heap.push PySem.W.emptyDict) (o := PySem.W.instObj C s.heap.objs.size) rfl
    rwa [Heap.size_push] at this
  have t1 : PySem.W.Looks (model X.prog X.w) ((s.heap.push PySem.W.emptyDict).push (PySem.W.instObj C s.heap.objs.size)) (typeOf (.ref (s.heap.objs.size + 1))) (.ref C) := (PySem.W.Looks.ld at2).andThen .now
  have t2 : PySem.W.Looks (model X.prog X.w) ((s.heap.push PySem.W.emptyDict).push (PySem.W.instObj C s.heap.objs.size)) (isInstance (.ref (s.heap.objs.size + 1)) (.type "object")) true := t1.andThen (PySem.W.looks_mroIn I2.kIn M.top)
  refine codeAny_call_builtin PySem.W.oi_plain PySem.W.entry_oi (@PySem.W.check_slot (model X.prog X.w) _ _ _ "object.__init__" "object" "__init__" (.ref (s.heap.objs.size + 1)) [] [] _ PySem.W.oi_kind PySem.W.oi_split t2 (PySem.W.oi_args (.ref (s.heap.objs.size + 1))) ?_)
  rw [PySem.W.oi_run]
  exact wpAny_pure (And.intro rfl ⟨V.ref (s.heap.objs.size + 1), _, I2, rfl, hq⟩)
theorem pe_make00 (M : Mk0 X.K C) (hg : Gl X x) (hm : X.mg x = some (.ref C)) (hdb : (x == ("__debug__" : Str)) = false := by decide) : PE X (.Call (.Name x p) [] [] pos) (tMake0 C) := by
  refine ⟨fun pins s σ H Q I h => ?_⟩
  refine wpAny_Call_Name_kw (ld_glob I hg hm ?_ hdb)
  exact PySem.W.callWith_K0 I.kIn M.kp (run_make0 M I h)
/-- a method's promise -/
structure MetC (P : Program) (w : World) (K : PySem.W.Frag) (mg : Str → Option Value) (base : Heap) (k : Nat) (C : Addr) (m : Str) (sp : Sp) : Prop where
  ex : ∃ (f : Addr) (fd : FuncData) (ps : List Str), Cls K C ∧ Meth K C m f ∧ FnOk P w K mg base CX0 k f fd ps sp ∧ Binds K fd ps []
/-- o.m(e, ..) of an instance of one of two classes -/
def tMeth2 (C D : Addr) (m : Str) (spC spD : Sp) (ta : TE) (t : TA) : TE := fun σ H Q => ta σ H fun x H1 => ∃ a B dx fs, x = .ref a ∧ H1 a = some (.ins B dx fs) ∧ fs.lookup m = none ∧
  ((B = C ∧ t σ H1 fun vs H2 => spC (x :: vs) H2 Q E0) ∨ (B = D ∧ t σ H1 fun vs H2 => spD (x :: vs) H2 Q E0))
theorem pe_meth2 {pl : Sem Bool} {k j : Nat} {D : Addr} {spC spD : Sp} (c : MetC X.prog X.w X.K X.mg X.base k C m spC) (d : MetC X.prog X.w X.K X.mg X.base k D m spD) (hr : Room j X.A) (hk : k ≤ j) (he : PE X o ta) (ha : PA X (e :: es) t)
    (hst : starEach (e :: es) X.env = (false, eval e X.env) :: starEach es X.env := by rfl) (hpl : (backTo pos (starEach es X.env)).any (·.1) = false := by rfl)
    (ht : eval (.Call (.Attribute o m apos) (e :: es) [] pos) X.env = (do
      let ov ← eval o X.env
      standAt apos.atName
      let (f, first) ← holding [ov] (getMethod ov m pl)
      callWith pos f first (backTo pos (starEach (e :: es) X.env)) (backToKw pos (keywordEach [] X.env))) := by rfl) :
    PE X (.Call (.Attribute o m apos) (e :: es) [] pos) (tMeth2 C D m spC spD ta t) := by
  obtain ⟨f1, fd1, ps1, c1, m1, F1, b1⟩ := c.ex
  obtain ⟨f2, fd2, ps2, c2, m2, F2, b2⟩ := d.ex
  refine ⟨fun pins s σ H Q I h => ?_⟩
  refine PySem.W.methodCall_KW (pl := pl) (thn (he.run pins s σ H _ I h) fun u s1 ⟨x, H1, I1, rx, a, B, dx, fs, ex, ea, l, q⟩ => ?_) ht
  subst ex
  obtain rfl : u = Value.ref a := rx
  rcases q with ⟨rfl, q⟩ | ⟨rfl, q⟩
  · refine getmeth_ok I1 ea c1 m1 l ?_
    refine PySem.W.callWith_K (first := [.ref a]) (h₀ := X.base) I.ok.mod.kin m1.kp (thn (ha.run pos pins s1 σ H1 _ I1 q) fun us s2 ⟨vs, H2, I2, r, q2⟩ => ⟨I2.kIn, ?_⟩) hst hpl
    exact run_fn (us := .ref a :: us) (vs := .ref a :: vs) (dvs := []) F1 (hr.mono hk) b1 .nil pass0 I2 (.cons rfl r) (by rw [List.append_nil]; exact q2)
  · refine getmeth_ok I1 ea c2 m2 l ?_
    refine PySem.W.callWith_K (first := [.ref a]) (h₀ := X.base) I.ok.mod.kin m2.kp (thn (ha.run pos pins s1 σ H1 _ I1 q) fun us s2 ⟨vs, H2, I2, r, q2⟩ => ⟨I2.kIn, ?_⟩) hst hpl
    exact run_fn (us := .ref a :: us) (vs := .ref a :: vs) (dvs := []) F2 (hr.mono hk) b2 .nil pass0 I2 (.cons rfl r) (by rw [List.append_nil]; exact q2)
end
/-! ### the text's classes -/
/-- a class that may be made by its name, by its __init__ -/
structure MakC (P : Program) (w : World) (K : PySem.W.Frag) (mg : Str → Option Value) (base : Heap) (k : Nat) (x : Str) (C : Addr) (sp : Sp) : Prop where
  ex : ∃ (f : Addr) (fd : FuncData) (ps : List Str), Mk K C f ∧ FnOk P w K mg base CX0 k f fd ps sp ∧ mg x = some (.ref C) ∧ Binds K fd ps []
theorem pe_mkc {X : Cx} {k j : Nat} {C : Addr} {x : Str} {sp : Sp} {p pos : Pos} {e : Expr} {es : List Expr} {t : TA} (c : MakC X.prog X.w X.K X.mg X.base k x C sp) (hr : Room j X.A) (hk : k + 1 ≤ j) (hg : Gl X x) (ha : PA X (e :: es) t)
    (hdb : (x == ("__debug__" : Str)) = false := by decide) (he : starEach (e :: es) X.env = (false, eval e X.env) :: starEach es X.env := by rfl) (hpl : (backTo pos (starEach es X.env)).any (·.1) = false := by rfl) :
    PE X (.Call (.Name x p) (e :: es) [] pos) (tMake C sp [] E0 t) := by
  obtain ⟨f, fd, ps, M, F, hm, b⟩ := c.ex
  exact pe_make M F (hr.mono hk) hg hm b .nil pass0 ha hdb he hpl
structure DfM (K : PySem.W.Frag) (C : Addr) (m qual : Str) (st : Stmt) (ps : List Str) : Prop where
  ex : ∃ (f : Addr) (fd : FuncData), Fun K m qual st f fd ∧ Cls K C ∧ Meth K C m f ∧ Binds K fd ps []
structure DfI (K : PySem.W.Frag) (mg : Str → Option Value) (x : Str) (C : Addr) (qual : Str) (st : Stmt) (ps : List Str) : Prop where
  ex : ∃ (f : Addr) (fd : FuncData), Fun K "__init__" qual st f fd ∧ Mk K C f ∧ mg x = some (.ref C) ∧ Binds K fd ps []
section
variable {P : Program} {w : World} {K : PySem.W.Frag} {mg : Str → Option Value} {base : Heap}
theorem DfM.ok {C : Addr} {m qual : Str} {st : Stmt} {N ps : List Str} {k : Nat} {sp : Sp} (F : DfM K C m qual st ps) (S : FnScope N ps (defScope st)) (len : ∀ vs H Q E, sp vs H Q E → vs.length = ps.length)
    (hbody : ∀ (f : Addr) (cdv : Value) (A : Around) (outer : List Env) (s : Shared) (H : Hp) (vs : List V) (Q : VK) (E : XK), Room k (A.deeper (envOfC qual (defScope st) s.heap.objs.size f cdv)) → sp vs H Q E →
      ∃ t, PSs (cxOf CX0 P w K mg base N qual (defScope st) f cdv A outer s H E).nox (defBody st) t ∧ t { nx := fun _ H' => Q .non H', rt := Q } (start N vs) H) : MetC P w K mg base (k + 1) C m sp := by
  obtain ⟨f, fd, F, c, me, b⟩ := F.ex
  exact ⟨f, fd, ps, c, me, F.ok S len fun cdv A outer s H vs Q E => hbody f cdv A outer s H vs Q E, b⟩
theorem DfI.ok {C : Addr} {x qual : Str} {st : Stmt} {N ps : List Str} {k : Nat} {sp : Sp} (F : DfI K mg x C qual st ps) (S : FnScope N ps (defScope st)) (len : ∀ vs H Q E, sp vs H Q E → vs.length = ps.length)
    (hbody : ∀ (f : Addr) (cdv : Value) (A : Around) (outer : List Env) (s : Shared) (H : Hp) (vs : List V) (Q : VK) (E : XK), Room k (A.deeper (envOfC qual (defScope st) s.heap.objs.size f cdv)) → sp vs H Q E →
      ∃ t, PSs (cxOf CX0 P w K mg base N qual (defScope st) f cdv A outer s H E).nox (defBody st) t ∧ t { nx := fun _ H' => Q .non H', rt := Q } (start N vs) H) : MakC P w K mg base (k + 1) x C sp := by
  obtain ⟨f, fd, F, M, g, b⟩ := F.ex
  exact ⟨f, fd, ps, M, F.ok S len fun cdv A outer s H vs Q E => hbody f cdv A outer s H vs Q E, g, b⟩
theorem MetC.mono {C : Addr} {m : Str} {j k : Nat} {sp : Sp} (c : MetC P w K mg base j C m sp) (h : j ≤ k) : MetC P w K mg base k C m sp := by
  obtain ⟨f, fd, ps, c1, m1, F, b⟩ := c.ex
  exact ⟨f, fd, ps, c1, m1, F.mono h, b⟩
end
/-! ### isinstance's answers, by the classes' rows -/
theorem kit_by {K : PySem.W.Frag} {C D : Addr} {b : Bool} (h2 : PySem.W.isClsIn K D = true) (h3 : PySem.W.typeIn K (.ref D) = some (.type "type")) (h4 : PySem.W.subIn K (.ref C) (.ref D) = some b) (h5 : PySem.W.subIn K (.ref C) (.ref C) = some true) : PySem.W.kitOne K (.ref C) (.ref D) = some b := by
  unfold PySem.W.kitOne
  by_cases e : (Value.ref C == Value.ref D) = true
  · rw [if_pos e]
    have e2 : C = D := by
      have := beq_iff_eq.mp e
      cases this
      rfl
    subst e2
    rw [h5] at h4
    exact h4
  · rw [if_neg e]
    have e2 : ((PySem.W.clsIn K D).isSome && PySem.W.typeIn K (.ref D) == some (.type "type")) = true := by
      have h2' : (PySem.W.clsIn K D).isSome = true := h2
      rw [h2', h3] <;> rfl
    show (if ((PySem.W.clsIn K D).isSome && PySem.W.typeIn K (.ref D) == some (.type "type")) = true then PySem.W.subIn K (.ref C) (.ref D) else none) = some b
    rw [if_pos e2]
    exact h4
/-! ### readings step by step -/
section
variable {σ : L2.St} {H : Hp} {Q : VK} {ta tv : TE} {t : TA} {K : PySem.W.Frag} {C B : Addr} {m f : Str} {spC spD sp : Sp} {D : Ends} {E : XK}
theorem c_meth2 (k : ta σ H fun x H1 => ∃ a A dx fs, x = .ref a ∧ H1 a = some (.ins A dx fs) ∧ fs.lookup m = none ∧ ((A = C ∧ t σ H1 fun vs H2 => spC (x :: vs) H2 Q E0) ∨ (A = B ∧ t σ H1 fun vs H2 => spD (x :: vs) H2 Q E0))) : tMeth2 C B m spC spD ta t σ H Q := k
theorem c_mk (k : t σ H fun vs H1 => ∀ x dx, H1 x = none → H1 dx = none → dx ≠ x → sp (.ref x :: (vs ++ [])) (upd (upd H1 dx (.own x)) x (.ins C dx [])) (fun v H2 => v = .non ∧ Q (.ref x) H2) E) : tMake C sp [] E t σ H Q := k
theorem c_mk0 (k : ∀ x dx, H x = none → H dx = none → dx ≠ x → Q (.ref x) (upd (upd H dx (.own x)) x (.ins C dx []))) : tMake0 C σ H Q := k
theorem c_fld (k : ta σ H fun x H1 => ∃ a C dx fs v, x = .ref a ∧ H1 a = some (.ins C dx fs) ∧ Cls K C ∧ NoAttr K C f ∧ fs.lookup f = some v ∧ Q v H1) : tFld K ta f σ H Q := k
end
end Dt
/-! Defs that may refuse: their promises, calls of them, the errors' classes. -/
namespace Dt
open PySem PySem.Spec PyProof.Rows L2 Evl
/-- the function at f, called with such values: it answers or it refuses as told -/
def RunX (P : Program) (w : World) (K : PySem.W.Frag) (mg : Str → Option Value) (base : Heap) (k : Nat) (f : Addr) (sp : Sp) : Prop :=
  ∀ (A : Around) (outer : List Env) (s : Shared) (H : Hp) (us : List Value) (vs : List V) (Q : VK) (E : XK), Room k A → Env0 P w K mg base A outer s H → K.In s.heap → Vals vs us → sp vs H Q E →
    codeAny (model P w) A (.call (.ref f) ⟨us, []⟩) (CR (L2N.CX P w) outer P w H s Q E) s
/-- what a def that may refuse promises, callable by its name -/
structure CalX (P : Program) (w : World) (K : PySem.W.Frag) (mg : Str → Option Value) (base : Heap) (k : Nat) (x : Str) (sp : Sp) : Prop where
  ex : ∃ f : Addr, RunX P w K mg base k f sp ∧ mg x = some (.ref f) ∧ PySem.W.keepIn K (.ref f) = true
/-- one of two promises -/
def spOr (s t : Sp) : Sp := fun vs H Q E => s vs H Q E ∨ t vs H Q E
section
variable {P : Program} {w : World} {K : PySem.W.Frag} {mg : Str → Option Value} {base : Heap}
theorem run_ok {CX : CXT} {k : Nat} {f : Addr} {fd : FuncData} {ps : List Str} {sp : Sp} (F : FnOk P w K mg base CX k f fd ps sp) (b : Binds K fd ps []) (hc : ∀ outer H s E e s', CX outer H s E e s' → L2N.CX P w outer H s E e s') : RunX P w K mg base k f sp := by
  intro A outer s H us vs Q E hr e0 KX r h
  have hl : us.length = ps.length := by rw [← r.length]; exact F.len _ _ _ _ h
  have bb := b s us KX (by rw [List.append_nil]; exact hl)
  rw [List.append_nil] at bb
  refine codeAny_mono (F.run A outer s H ⟨us, []⟩ us vs Q E hr e0 bb r h) fun res s' hq => ?_
  cases res with
  | error e => exact hc _ _ _ _ _ _ hq
  | ok fl => cases fl <;> exact hq
theorem Df.okX {x : Str} {st : Stmt} {N ps : List Str} {k : Nat} {sp : Sp} (F : Df K mg x st ps) (S : FnScope N ps (defScope st)) (len : ∀ vs H Q E, sp vs H Q E → vs.length = ps.length)
    (hbody : ∀ (f : Addr) (cdv : Value) (A : Around) (outer : List Env) (s : Shared) (H : Hp) (vs : List V) (Q : VK) (E : XK), Room k (A.deeper (envOfC x (defScope st) s.heap.objs.size f cdv)) → sp vs H Q E →
      ∃ t, PSs (cxOf (L2N.CX P w) P w K mg base N x (defScope st) f cdv A outer s H E) (defBody st) t ∧ t { nx := fun _ H' => Q .non H', rt := Q } (start N vs) H) : CalX P w K mg base (k + 1) x sp := by
  obtain ⟨f, fd, F, m, b⟩ := F.ex
  refine ⟨f, ?_, m, F.kp⟩
  obtain ⟨oc, od, kV, doc, pm, an, cdv, ct, osl, rfl, lk, hcd⟩ := F.ex
  exact run_ok (fn_of lk hcd S len fun A outer s H vs Q E hr hsp => hbody f cdv A outer s H vs Q E hr hsp) b fun _ _ _ _ _ _ z => z
/-- both ways: it answers, or it refuses -/
theorem CalX.or {k : Nat} {x : Str} {s t : Sp} (c : Cal P w K mg base CX0 k x s) (d : CalX P w K mg base k x t) : CalX P w K mg base k x (spOr s t) := by
  obtain ⟨f, fd, ps, F, m, kp, b⟩ := c.ex
  obtain ⟨f', F', m', kp'⟩ := d.ex
  rw [m] at m'
  cases m'
  refine ⟨f, fun A outer s H us vs Q E hr e0 KX r h => ?_, m, kp⟩
  rcases h with h | h
  · exact run_ok F b (fun _ _ _ _ _ _ z => z.elim) A outer s H us vs Q E hr e0 KX r h
  · exact F' A outer s H us vs Q E hr e0 KX r h
theorem CalX.both {k : Nat} {x : Str} {s t : Sp} (c : CalX P w K mg base k x s) (d : CalX P w K mg base k x t) : CalX P w K mg base k x (spOr s t) := by
  obtain ⟨f, F, m, kp⟩ := c.ex
  obtain ⟨f', F', m', kp'⟩ := d.ex
  rw [m] at m'
  cases m'
  refine ⟨f, fun A outer s H us vs Q E hr e0 KX r h => ?_, m, kp⟩
  rcases h with h | h
  · exact F A outer s H us vs Q E hr e0 KX r h
  · exact F' A outer s H us vs Q E hr e0 KX r h
theorem CalX.mono {j k : Nat} {x : Str} {s : Sp} (c : CalX P w K mg base j x s) (h : j ≤ k) : CalX P w K mg base k x s := by
  obtain ⟨f, F, m, kp⟩ := c.ex
  exact ⟨f, fun A outer s H us vs Q E hr => F A outer s H us vs Q E (hr.mono h), m, kp⟩
end
section
variable {X : Cx} {k j : Nat} {x : Str} {sp : Sp} {p pos : Pos} {e : Expr} {es : List Expr} {t : TA} {W : WX}
/-- a call of a def that may refuse -/
theorem run_x {pins : List (Addr × Obj)} {σ : L2.St} {H : Hp} {s : Shared} {Q : VK} {f : Addr} {us : List Value} {vs : List V} (F : RunX X.prog X.w X.K X.mg X.base k f sp) (hr : Room k X.A) (tk : L2N.Takes X W)
    (I : Inv X pins σ H s) (r : Vals vs us) (h : sp vs H Q (WE W σ)) : wpAny (model X.prog X.w) X.A (call (.ref f) us) (EP X pins σ Q) X.xe s := by
  refine wpAny_call (codeAny_mono (F X.A X.stack s H us vs Q (WE W σ) hr I.env0 I.kIn r h) fun r s' hq => ?_)
  cases r with
  | error e => exact L2N.passAt tk σ pins H s e s' I hq
  | ok fl =>
    cases fl with
    | ret u => exact I.after hq
    | next => exact False.elim hq
    | brk => exact False.elim hq
    | cont => exact False.elim hq
theorem pe_dx (c : CalX X.prog X.w X.K X.mg X.base k x sp) (hr : Room j X.A) (hk : k ≤ j) (tk : L2N.Takes X W) (hg : Gl X x) (ha : PA X (e :: es) t)
    (hdb : (x == ("__debug__" : Str)) = false := by decide) (he : starEach (e :: es) X.env = (false, eval e X.env) :: starEach es X.env := by rfl) (hpl : (backTo pos (starEach es X.env)).any (·.1) = false := by rfl) :
    PE X (.Call (.Name x p) (e :: es) [] pos) (tCallS sp (WE W) t) := by
  obtain ⟨f, F, hm, kp⟩ := c.ex
  refine ⟨fun pins s σ H Q I h => ?_⟩
  refine wpAny_Call_Name_kw (ld_glob I hg hm ?_ hdb)
  refine PySem.W.callWith_K (h₀ := X.base) I.ok.mod.kin kp (thn (ha.run pos pins s σ H _ I h) fun us s1 ⟨vs, H1, I1, r, q⟩ => ⟨I1.kIn, ?_⟩) he hpl
  exact run_x F (hr.mono hk) tk I1 r q
end
/-! ### the errors' classes -/
/-- what the text says of an error's class, at C, by its name -/
structure ErrC (K : PySem.W.Frag) (mg : Str → Option Value) (x : Str) (C CD : Addr) : Prop where
  gP : mg x = some (.ref C)
  xP : PySem.W.excIn K C [.type "ValueError", .type "Exception", .type "BaseException", .type "object"] "ValueError.__new__" = true
  kP : PySem.W.keepIn K (.ref C) = true
  tP : PySem.W.typeIn K (.ref C) = some (.type "type")
  iP : PySem.W.isClsIn K C = true
  eC : ExcC K C
  sD : PySem.W.subIn K (.ref C) (.ref CD) = some true
theorem ErrC.raises {X : Cx} {x : Str} {C CD : Addr} (c : ErrC X.K X.mg x C CD) : Raises X (.ref C) := raises_own c.eC.hs c.tP
/-- raise X('..') -/
theorem ps_refuse {X : Cx} {W : WX} {x m : Str} {C CD : Addr} {j : Nat} {p p2 pos pos2 : Pos} (hc : X.calm = true) (tk : L2N.Takes X W) (c : ErrC X.K X.mg x C CD) (hg : Gl X x) (hdb : (x == ("__debug__" : Str)) = false := by decide) :
    PS X (.Raise (some (.Call (.Name x p) [.Constant (.str m) j p2] [] pos)) none pos2) (fun _ σ H => W (.ref C) none σ H) :=
  L2N.ps_raise hc tk (L2N.pmk_own PySem.F.excBase_ValueError c.xP c.gP c.kP c.raises hg hdb)
theorem takesN {X : Cx} : L2N.Takes X (fun _ _ _ _ => False) := fun _ _ x => by
  obtain ⟨_, _, _, _, _, _, _, _, _, _, _, _, _, _, _, _, z⟩ := x
  exact z.elim
/-- isinstance of the error that the suite holds, whatever its class -/
def rIsX (K : PySem.W.Frag) (cls : Value) (d : Option Addr) (a : Addr) : List V → Hp → VK → Prop := fun xs H Q => ∃ D, cls = .ref D ∧ d = none ∧ ExcC K D ∧ rIsE K D a xs H Q
theorem call_isX {X : Cx} {a : Addr} {oe : Obj} {cls : Value} {d : Option Addr} {pn : List (Addr × Obj)} (hz : L2N.Zn cls d oe) (hf : ∃ vs, oe.data = .fields vs) : CallR (X.suite a ((a, oe) :: pn)) (.builtin "isinstance") (rIsX X.K cls d a) := by
  intro pins s σ H xs us Q I r h
  obtain ⟨D, rfl, rfl, C, h⟩ := h
  exact call_isE C hz.zc hf pins s σ H xs us Q I r h
theorem ErrC.met {K : PySem.W.Frag} {mg : Str → Option Value} {x : Str} {C CD : Addr} (c : ErrC K mg x C CD) (hD : PySem.W.subIn K (.ref CD) (.type "BaseException") = some true) (hd : PySem.W.hasDictIn K CD = true) (ht : PySem.W.typeIn K (.ref CD) = some (.type "type")) : PySem.W.exmOne K (.ref C) (.ref CD) = some true := PySem.W.exm_ref hD hd ht c.sD
theorem c_callS {σ : L2.St} {H : Hp} {Q : VK} {sp : Sp} {E : L2.St → XK} {t : TA} (k : t σ H fun vs H1 => sp vs H1 Q (E σ)) : tCallS sp E t σ H Q := k
/-- what a call keeps whatever it does: what is locked -/
def Kp (H H' : Hp) : Prop := ∀ b o u, H b = some (.frz o u) → H' b = some (.frz o u)
theorem Cal.kp {P : Program} {w : World} {K : PySem.W.Frag} {mg : Str → Option Value} {base : Heap} {k : Nat} {x : Str} {sp : Sp} (c : Cal P w K mg base CX0 k x sp) : Cal P w K mg base CX0 k x (fun vs H Q E => sp vs H (fun v H' => Kp H H' → Q v H') E) := by
  obtain ⟨f, fd, ps, F, r⟩ := c.ex
  refine ⟨f, fd, ps, ⟨fun vs H Q E h => F.len _ _ _ _ h, fun A outer s H args us vs Q E hr e0 hb rv h => ?_⟩, r⟩
  refine codeAny_mono (F.run A outer s H args us vs _ E hr e0 hb rv h) fun res s' hq => ?_
  cases res with
  | error e => exact hq
  | ok fl =>
    cases fl with
    | ret u =>
      obtain ⟨v, H', h1, h2, h3, h4, h5, h6⟩ := hq
      exact ⟨v, H', h1, h2, h3, h4, h5, h6 h3.frzs⟩
    | next => exact hq
    | brk => exact hq
    | cont => exact hq
theorem only_ex {H H' : Hp} (o : Only H) (k : Kp H H') : Ex H H' := fun b u e => by
  rcases o b with z | ⟨ob, xs, z⟩
  · rw [z] at e; cases e
  · rw [z] at e; cases e; exact k _ _ _ z
/-- nothing of a refusal is promised -/
theorem CalX.none {P : Program} {w : World} {K : PySem.W.Frag} {mg : Str → Option Value} {base : Heap} {k : Nat} {x : Str} {sp : Sp} (c : Cal P w K mg base CX0 k x sp) : CalX P w K mg base k x (fun _ _ _ _ => False) := by
  obtain ⟨f, fd, ps, F, m, kp, b⟩ := c.ex
  exact ⟨f, fun A outer s H us vs Q E hr e0 KX r h => h.elim, m, kp⟩
end Dt
/-! A list comprehension while an error is handled. -/
namespace Dt
open PySem PySem.Spec PyProof.Rows L2 Evl
/-- a block's context that bears the handled error, too -/
abbrev hotBlk (Y : Cx) (p : Addr × Obj) : Cx := { Y with pn := [p] }
theorem inv_hot {Y : Cx} {p : Addr × Obj} {σ : L2.St} {H : Hp} {s : Shared} (hp : Y.pn = []) (J : Inv Y [p] σ H s) : Inv (hotBlk Y p) [] σ H s :=
  ⟨⟨J.ok.mod, J.ok.kind, J.ok.glob, J.ok.blt, J.ok.above, J.ok.inj, J.ok.has, J.ok.cab, J.ok.hd, J.ok.frames, J.ok.stk, J.ok.exf, J.ok.bs, J.ok.bsz, J.ok.noex, J.ok.exfs, J.ok.funs, J.ok.frf⟩,
    J.os, J.bare, J.base, J.loc, J.cell, J.free, J.freeC, fun q hq => J.pin q (by rw [hp]; simpa using hq), J.hok, J.len⟩
theorem inv_cold {Y : Cx} {p : Addr × Obj} {σ : L2.St} {H : Hp} {s : Shared} (hp : Y.pn = []) (J : Inv (hotBlk Y p) [] σ H s) : Inv Y [p] σ H s :=
  ⟨⟨J.ok.mod, J.ok.kind, J.ok.glob, J.ok.blt, J.ok.above, J.ok.inj, J.ok.has, J.ok.cab, J.ok.hd, J.ok.frames, J.ok.stk, J.ok.exf, J.ok.bs, J.ok.bsz, J.ok.noex, J.ok.exfs, J.ok.funs, J.ok.frf⟩,
    J.os, J.bare, J.base, J.loc, J.cell, J.free, J.freeC, fun q hq => J.pin q (by rw [hp] at hq; simpa using hq), J.hok, J.len⟩
section
variable {X : Cx} {pins : List (Addr × Obj)} {σ : L2.St} {H : Hp} {s : Shared} {p : Addr × Obj}
/-- the new list of a comprehension, empty, laid at the heap's end -/
abbrev mtList : Obj := { cls := .type "list", data := .seq ([] : List Value).toArray }
theorem inv_mt (J : Inv X pins σ H s) : Inv X pins σ (upd H s.heap.objs.size (.lst [])) { s with heap := s.heap.push mtList } :=
  J.laid (t' := s.toks) (fun b o e => Heap.get?_push_of_some _ e) (Nat.le_refl _) ⟨Nat.zero_le _, [], 0, .nil, Heap.get?_push_size _ rfl⟩
/-- what is known of the loop's turns within the block Y, the handled error pinned -/
theorem hot_turn {Y : Cx} {tg elt : Expr} {g : TG} {te : TE} {vs : List Nat} {ρ : L2.St} {J : It} {fp : List Addr} {it D : Addr} {tn : Nat → Heap → Prop} {W : Nat → Nat → Hp → Prop} {R : Result → Shared → Prop} {iter : Expr} {scope : Scope} {pos : Pos}
    (yp : Y.pn = []) (yx : Y.xe = fun _ _ => False) (hot : L2H.Hot1 Y.A p) (T : L2H.TurnH Y.prog Y.w Y.K tg J fp it tn) (pg : PG Y tg g) (pe : PE Y elt te)
    (stat : ∀ b ∈ fp, b ≠ Y.env.locals ∧ b ∉ Y.fs ∧ (b ∈ Y.ex ∨ Y.s_0.heap.objs.size ≤ b) ∧ (∀ x c, Y.env.cells.lookup x = some c → c ≠ b) ∧ p.1 ≠ b)
    (turn : ∀ i m H, W i m H → (J.stop i H ∧ ∀ s', Inv Y [p] (wipe ρ vs) H s' → R (.ok .next) s') ∨ (J.go i H ∧ ∃ Nx : Hp → Prop, (∀ H', Nx H' → ∃ m', m' < m ∧ W (i + 1) m' H') ∧ ∀ x H', J.yld i H x H' → g x (wipe ρ vs) H' fun σ2 H2 => wipe σ2 vs = wipe ρ vs ∧ te σ2 H2 fun y H4 => ∃ acc, H4 D = some (.lst acc) ∧ acc.length < sizeLine ∧ Nx (upd H4 D (.lst (acc ++ [y])))))
    (m0 : Nat) {H0 : Hp} {s0 : Shared} (I0 : Inv Y [p] (wipe ρ vs) H0 s0) (t0 : tn 0 s0.heap) (n0 : ∀ b ∈ fp, H0 b = none) (w0 : W 0 m0 H0) :
    codeAny (model Y.prog Y.w) Y.A (.compLoop (.ListComp elt [⟨tg, iter, [], 0⟩] scope pos) 0 (.ref it) (.ref D) Y.env) R s0 := by
  have fpo : ∀ {H' : Hp}, (∀ b ∈ fp, H' b = none) → ∀ b ∈ fp, FpOk (hotBlk Y p) [] H' b := fun hn b hb => by
    obtain ⟨a1, a2, a3, a4, a5⟩ := stat b hb
    exact ⟨hn b hb, a1, a2, a3, a4, fun q hq => by
      have e : q = p := by simpa using hq
      rw [e]; exact a5⟩
  have hc : L2H.HotC (hotBlk Y p) := ⟨p, hot, List.mem_singleton.mpr rfl⟩
  refine compLoop_any (fun m s' => ∃ i H', Inv Y [p] (wipe ρ vs) H' s' ∧ tn i s'.heap ∧ (∀ b ∈ fp, H' b = none) ∧ W i m H') ?_ m0 ⟨0, H0, I0, t0, n0, w0⟩
  rintro m s1 ⟨i, H1, I1, t1, n1, w1⟩
  rcases turn i m H1 w1 with ⟨stop, fin⟩ | ⟨go, Nx, hNx, step⟩
  · refine thnF (T.done (hotBlk Y p) rfl rfl rfl hc i [] s1 _ H1 (fun _ _ => False) (inv_hot yp I1) (fpo n1) t1 stop) fun r s2 hr => ?_
    obtain ⟨rfl, I2⟩ := hr
    exact fin s2 (inv_cold yp I2)
  · refine thnF (T.item (hotBlk Y p) rfl rfl rfl hc i [] s1 _ H1 (fun _ _ => False) (inv_hot yp I1) (fpo n1) t1 go) fun r s2 hr => ?_
    obtain ⟨u, rfl, k2⟩ := hr
    refine thnF k2 fun _ s3 k3 => ?_
    obtain ⟨x, H3, I3, r3, y3, t3, n3⟩ := k3
    have I3p := inv_cold yp (I3.pinned (fpo n3) (T.obj _ _ t3)).unpinned
    have I3q : Inv Y ([p] ++ pinsAt fp s3.heap) (wipe ρ vs) H3 s3 := I3p.pinned (fun b hb => by
      obtain ⟨a1, a2, a3, a4, a5⟩ := stat b hb
      exact ⟨n3 b hb, a1, a2, a3, a4, fun q hq => by
        have e : q = p := by rw [yp] at hq; simpa using hq
        rw [e]; exact a5⟩) (T.obj _ _ t3)
    have pr := pg.run _ s3 _ H3 x u _ I3q r3 (step x H3 y3)
    rw [yx] at pr
    refine thnF pr fun _ s4 k4 => ?_
    obtain ⟨σ4, H4, I4, hw4, q4⟩ := k4
    refine wpAny_tests_nil ?_
    show wpAny _ _ (eval elt Y.env) _ _ _
    have er := pe.run _ s4 σ4 H4 _ I4 q4
    rw [yx] at er
    refine thnF er fun z s5 k5 => ?_
    obtain ⟨yv, H5, I5, r5, acc, hD5, hz5, nx⟩ := k5
    refine app_ok I5 hD5 hz5 r5 fun s6 I6 => ?_
    obtain ⟨m', hm, w6⟩ := hNx _ nx
    have pin6 : ∀ b ∈ fp, ∀ o, s3.heap.get? b = some o → s6.heap.get? b = some o ∧ (upd H5 D (.lst (acc ++ [yv]))) b = none := fun b hb o e => by
      have z := I6.pin (b, o) (List.mem_append_right _ (List.mem_append_right _ (mem_pinsAt hb e)))
      exact ⟨z.1, z.2.1⟩
    refine ⟨m', hm, i + 1, _, (I6.unpinned (pins := [p])).weak (by rw [← hw4, wipe_length]) (fun j v e => ?_), T.keep _ _ _ t3 fun b hb o e => (pin6 b hb o e).1, fun b hb => ?_, w6⟩
    · rw [← hw4] at e
      exact (wipe_some e).1
    · obtain ⟨o, e, _⟩ := T.obj _ _ t3 b hb
      exact (pin6 b hb o e).2
/-- [elt for tg in iter], an error being handled -/
theorem pe_lcHot {elt tg iter : Expr} {scope : Scope} {own : List (Str × Nat)} {pos : Pos} {wi : TI} {g : TG} {te : TE} (hN : X.N.Nodup) (hot : L2H.Hot1 X.A p) (hp : p ∈ X.pn) (hi : L2H.PIH X tg iter wi) (ok : BlkOk X.N X.env.scope scope own)
    (hg : ∀ (s : Shared) (H : Hp) (C : Addr) (cl : List (Str × Addr)) (fp : List Addr), PG (X.blk s H scope (compEnvC scope cl C X.env) fp) tg g) (he : ∀ (s : Shared) (H : Hp) (C : Addr) (cl : List (Str × Addr)) (fp : List Addr), PE (X.blk s H scope (compEnvC scope cl C X.env) fp) elt te)
    (hs : ∀ x, foldedSetIterable iter X.env x = pure x := by intro _; rfl) : PE X (.ListComp elt [⟨tg, iter, [], 0⟩] scope pos) (tLc wi g tYes te (own.map (·.2))) := by
  refine ⟨fun pins s σ H Q I h => ?_⟩
  rw [eval_ListComp]
  have clo : ∀ y ∈ scope.names, y.2 = .free → ∃ c, X.env.cells.lookup y.1 = some c := fun y hy e => (ok.free y hy e).elim (fun k => I.ok.has _ (.inl k)) (fun k => I.ok.has _ (.inr k))
  refine wpAny_comprehension_free (use := none) rfl hs (closure_ok clo) ok.kind (fun y hy e => by rw [ok.uniq y hy, e]) (thn (hi.run pins s σ H _ I h) fun xv s1 hx => thn hx fun itv s2 k2 => ?_)
  obtain ⟨it, fp, tn, J, H2, rfl, I2, T, t2, f2, q⟩ := k2
  refine wpAny_newObj_type (newEnv_comp ?_) (by show 0 ≤ sizeLine; decide)
  have nD : H2 s2.heap.objs.size = none := I2.hok.fresh (Nat.le_refl _)
  obtain ⟨W, ⟨m0, w0⟩, turn⟩ := q _ nD
  have I3 := inv_mt I2
  have ltf : ∀ b ∈ fp, b < s2.heap.objs.size := fun b hb => by
    obtain ⟨o, e, _⟩ := T.obj _ _ t2 b hb
    exact Heap.lt_size e
  have f3 : ∀ b ∈ fp, FpOk X pins (upd H2 s2.heap.objs.size (.lst [])) b := fun b hb => ⟨by rw [upd_ne (Nat.ne_of_lt (ltf b hb))]; exact (f2 b hb).1, (f2 b hb).2⟩
  have t3 : tn 0 (s2.heap.push mtList) := T.keep _ _ _ t2 fun b _ o e => Heap.get?_push_of_some _ e
  have I4 := block_start I3 ok hN (fp := fp) fun b hb => ⟨f3 b hb, by
    show b < (s2.heap.push mtList).objs.size
    rw [Heap.size_push]
    exact Nat.lt_succ_of_lt (ltf b hb)⟩
  have P2 := I2.pin p (List.mem_append_left _ hp)
  have pD : p.1 ≠ s2.heap.objs.size := Nat.ne_of_lt (Heap.lt_size P2.1)
  have pS : p.1 ∉ frs X.stack := fun z => (List.mem_cons.mp (I2.stkSub p.1 z)).elim P2.2.2.1 P2.2.2.2.1
  have I5 : Inv (X.blk { s2 with heap := s2.heap.push mtList } (upd H2 s2.heap.objs.size (.lst [])) scope (compEnvC scope (cellsFrom ((s2.heap.push mtList).objs.size + 1) scope.names (cloFrom X.env.cells scope.names [])) (s2.heap.push mtList).objs.size X.env) fp) [p] (wipe σ (own.map (·.2))) (upd H2 s2.heap.objs.size (.lst []))
      { s2 with heap := pushCells ((s2.heap.push mtList).push { cls := .type "dict", data := .dict #[] }) scope.names } := I4.pins_of fun q hq => by
    have e : q = p := by simpa using hq
    rw [e]
    refine ⟨pushCells_keeps _ _ _ _ (Heap.get?_push_of_some _ (Heap.get?_push_of_some _ P2.1)), by rw [upd_ne pD]; exact P2.2.1, ?_, pS, P2.2.2.2.2⟩
    show p.1 ≠ (s2.heap.push mtList).objs.size
    rw [Heap.size_push]
    exact Nat.ne_of_lt (Nat.lt_succ_of_lt (Heap.lt_size P2.1))
  have t4 : tn 0 (pushCells ((s2.heap.push mtList).push { cls := .type "dict", data := .dict #[] }) scope.names) := T.keep _ _ _ t3 fun b _ o e => pushCells_keeps _ _ _ _ (Heap.get?_push_of_some _ e)
  have loop := hot_turn (Y := X.blk { s2 with heap := s2.heap.push mtList } (upd H2 s2.heap.objs.size (.lst [])) scope (compEnvC scope (cellsFrom ((s2.heap.push mtList).objs.size + 1) scope.names (cloFrom X.env.cells scope.names [])) (s2.heap.push mtList).objs.size X.env) fp) (tg := tg) (elt := elt) (iter := iter) (scope := scope) (pos := pos) (R := compPost (model X.prog X.w) X.A X.xe none (EP X pins σ Q) (.ref s2.heap.objs.size) (s2.heap.push mtList).objs.size) (W := W) (g := g) (te := te) (vs := own.map (·.2)) (ρ := σ) (J := J) (D := s2.heap.objs.size) rfl rfl hot T (hg _ _ _ _ fp) (he _ _ _ _ fp)
    (fun b hb => ⟨(I4.ok.exf b hb).1, I4.ok.exfs b hb, .inl hb, fun x c e => (I4.ok.exf b hb).2 x c e, (f2 b hb).2.2.2.2.2 p (List.mem_append_left _ hp)⟩) (fun i m H' w' => ?_) m0 I5 t4 (fun b hb => (f3 b hb).1) w0
  · exact codeAny_compStart_list loop (T.self X.A 0 _ _ _ t4 loop)
  · rcases turn i m H' w' with ⟨stop, qq⟩ | ⟨go, Nx, hNx, step⟩
    · refine .inl ⟨stop, fun s6 I6 => ?_⟩
      have I7 : Inv X pins σ H' s6 := I3.call' (ch := fp) I6.os I6.base I6.hok I6.bare fun b hb => ⟨(f3 b hb).2.2.2.1, (f3 b hb).2.1, (f3 b hb).2.2.2.2.1, (f3 b hb).2.2.2.2.2⟩
      obtain ⟨mm, hn, _⟩ := I6.loc
      obtain ⟨a0, a1, a2, a3, a4, a5⟩ := I3.fpOk (H' := H') (b := (s2.heap.push mtList).objs.size) (Nat.le_refl _) I6.free
      exact ⟨mm, hn, fun h'' sb => ⟨.ref s2.heap.objs.size, H', I7.turned (t' := s6.toks) (fun b o hb e => (sb.2 b hb).trans e) a0 a1 a3 a4 a5, rfl, qq⟩⟩
    · exact .inr ⟨go, Nx, hNx, fun x H'' hy => step x H'' hy⟩
end
end Dt
/-! A def called in an except suite, told of the error that is handled. -/
namespace Dt
open PySem PySem.Spec PyProof.Rows L2 Evl
/-- the handled error p is of the class at D, without a dict -/
structure Errs (p : Addr × Obj) (D : Addr) : Prop where
  cls : p.2.cls = .ref D
  dict : p.2.dict = none
/-- what the def at f promises there; sp is told the error's address and its class -/
def RunE (P : Program) (w : World) (K : PySem.W.Frag) (mg : Str → Option Value) (base : Heap) (k : Nat) (f : Addr) (sp : Addr → Addr → Sp) : Prop :=
  ∀ (A : Around) (outer : List Env) (s : Shared) (H : Hp) (us : List Value) (vs : List V) (Q : VK) (E : XK) (p : Addr × Obj) (D : Addr), L2H.RoomH k A → L2H.Hot1 A p → L2H.PinOk outer H s p → Errs p D → Env0 P w K mg base A outer s H → K.In s.heap → Vals vs us → sp p.1 D vs H Q E →
    codeAny (model P w) A (.call (.ref f) ⟨us, []⟩) (CR CX0 outer P w H s Q E) s
structure CalE (P : Program) (w : World) (K : PySem.W.Frag) (mg : Str → Option Value) (base : Heap) (k : Nat) (x : Str) (sp : Addr → Addr → Sp) : Prop where
  ex : ∃ f : Addr, RunE P w K mg base k f sp ∧ mg x = some (.ref f) ∧ PySem.W.keepIn K (.ref f) = true
section
variable {P : Program} {w : World} {K : PySem.W.Frag} {mg : Str → Option Value} {base : Heap}
theorem Df.okE {x : Str} {st : Stmt} {N ps : List Str} {k : Nat} {sp : Addr → Addr → Sp} (F : Df K mg x st ps) (S : FnScope N ps (defScope st)) (len : ∀ a D vs H Q E, sp a D vs H Q E → vs.length = ps.length)
    (hbody : ∀ (f : Addr) (cdv : Value) (A : Around) (outer : List Env) (s : Shared) (H : Hp) (vs : List V) (Q : VK) (E : XK) (p : Addr × Obj) (D : Addr), L2H.Hot1 A p → Errs p D → L2H.RoomH k (A.deeper (envOfC x (defScope st) s.heap.objs.size f cdv)) → sp p.1 D vs H Q E →
      ∃ t, PSs (L2H.cxH CX0 P w K mg base N x (defScope st) f cdv A outer s H E p) (defBody st) t ∧ t { nx := fun _ H' => Q .non H', rt := Q } (start N vs) H) : CalE P w K mg base (k + 1) x sp := by
  obtain ⟨f, fd, F, m, b⟩ := F.ex
  refine ⟨f, ?_, m, F.kp⟩
  obtain ⟨oc, od, kV, doc, pm, an, cdv, ct, osl, rfl, lk, hcd⟩ := F.ex
  intro A outer s H us vs Q E p D room hot pin er e0 KX r h
  have lv := len _ _ _ _ _ _ h
  have bb := b s us KX (by rw [List.append_nil, ← r.length]; exact lv)
  rw [List.append_nil] at bb
  have kinds : ∀ y ∈ ps.zip us, (defScope st).names.lookup y.1 = some .local ∨ ((defScope st).names.lookup y.1 = some .cell ∧ ((cellsFrom (s.heap.objs.size + 1) (defScope st).names []).lookup y.1).isSome = true) := by
    rintro ⟨n, v⟩ hy
    exact (S.par n (List.of_mem_zip hy).1).imp id fun q => ⟨q, PySem.W.cellsFrom_some _ _ _ (.inl q)⟩
  refine codeAny_call_function room.depth (KX _ _ lk) rfl S.co S.gen rfl (PySem.W.codeRec_of KX hcd) (bb _ _ _ _ (wpAny_newFunctionEnv_cells S.kind kinds fun env he s1 x1 => ?_))
  subst he
  have NL : s.heap.NoLimit := e0.mod.nolimit.keeps fun c o e => (e0.bs c o e).1
  refine ⟨NL.keeps x1.toInCall.keep, codeAny_func ?_⟩
  obtain ⟨t, pt, ht⟩ := hbody f cdv A outer s H vs Q E p D hot er (room.deeper _) h
  have J := L2H.inv_startH (CX := CX0) (E := E) S pin e0 lv r x1
  refine wpAny_mono (pt.run [] s1 _ H _ J ht) (fun fl s2 k2 => ?_) fun _ _ z => z
  cases fl with
  | ret u =>
    obtain ⟨v, σ2, H2, J2, rv, q2⟩ := k2
    exact ⟨v, H2, J2.os, J2.bare, J2.base, J2.hok, rv, q2⟩
  | next =>
    obtain ⟨σ2, H2, J2, q2⟩ := k2
    exact ⟨.non, H2, J2.os, J2.bare, J2.base, J2.hok, rfl, q2⟩
  | brk =>
    obtain ⟨_, _, _, z⟩ := k2
    exact z.elim
  | cont =>
    obtain ⟨_, _, _, z⟩ := k2
    exact z.elim
end
section
variable {X : Cx} {k j : Nat} {x : Str} {sp : Addr → Addr → Sp} {p pos : Pos} {e : Expr} {es : List Expr} {t : TA} {pe : Addr × Obj}
/-- the def called, the error handed on or not -/
def tCallE (pe : Addr × Obj) (sp : Addr → Addr → Sp) (t : TA) : TE := fun σ H Q => ∃ D, Errs pe D ∧ t σ H fun vs H1 => sp pe.1 D vs H1 Q E0
theorem pe_de (c : CalE X.prog X.w X.K X.mg X.base k x sp) (hr : L2H.RoomH j X.A) (hk : k ≤ j) (hot : L2H.Hot1 X.A pe) (hp : pe ∈ X.pn) (hg : Gl X x) (ha : PA X (e :: es) t)
    (hdb : (x == ("__debug__" : Str)) = false := by decide) (he : starEach (e :: es) X.env = (false, eval e X.env) :: starEach es X.env := by rfl) (hpl : (backTo pos (starEach es X.env)).any (·.1) = false := by rfl) :
    PE X (.Call (.Name x p) (e :: es) [] pos) (tCallE pe sp t) := by
  obtain ⟨f, F, hm, kp⟩ := c.ex
  refine ⟨fun pins s σ H Q I h => ?_⟩
  obtain ⟨D, er, h⟩ := h
  refine wpAny_Call_Name_kw (ld_glob I hg hm ?_ hdb)
  refine PySem.W.callWith_K (h₀ := X.base) I.ok.mod.kin kp (thn (ha.run pos pins s σ H _ I h) fun us s1 ⟨vs, H1, I1, r, q⟩ => ⟨I1.kIn, ?_⟩) he hpl
  have P1 := I1.pin pe (List.mem_append_left _ hp)
  refine wpAny_call (codeAny_mono (F X.A X.stack s1 H1 us vs Q E0 pe D (hr.mono hk) hot ⟨P1.1, P1.2.1, fun z => (List.mem_cons.mp (I1.stkSub pe.1 z)).elim P1.2.2.1 P1.2.2.2.1, P1.2.2.2.2⟩ er I1.env0 I1.kIn r q) fun res s2 k2 => ?_)
  cases res with
  | error e => exact (show False from k2).elim
  | ok fl =>
    cases fl with
    | ret u => exact I1.after k2
    | next => exact (show False from k2).elim
    | brk => exact (show False from k2).elim
    | cont => exact (show False from k2).elim
/-- isinstance of the handled error -/
theorem call_isP {X : Cx} {pe : Addr × Obj} (hp : pe ∈ X.pn) (hf : ∃ vs, pe.2.data = .fields vs) : CallR X (.builtin "isinstance") (fun xs H Q => ∃ D, Errs pe D ∧ ExcC X.K D ∧ rIsE X.K D pe.1 xs H Q) := by
  intro pins s σ H xs us Q I r h
  obtain ⟨D, er, C, c, cv, b, rfl, hcv, e, q⟩ := h
  obtain ⟨u1, u2, rfl, r1, r2⟩ := vals2 r
  have ec := hcv _ r2
  subst ec
  cases r1
  obtain ⟨hget, _⟩ := I.pin pe (List.mem_append_left _ hp)
  obtain ⟨vs, hv⟩ := hf
  obtain ⟨h1, h2⟩ := er
  have J : PySem.W.InstAt s.heap pe.1 pe.2 D none := by
    obtain ⟨a, oc, od, oda, osl⟩ := pe
    dsimp only at h1 h2 hv hget ⊢
    subst h1 h2 hv
    exact ⟨hget, rfl, rfl, trivial⟩
  exact PySem.W.kia_one (PySem.W.handS_kitx_exc C.hg C.hk C.hs C.hd C.ha C.hn C.ht C.hm) I.kIn J e (fun z => nomatch z) fun tk => ⟨.bl b, H, I.kept (t' := tk) fun _ _ z => z, rfl, q⟩
end
end Dt
/-! A lambda with parameters: made, tracked, called. -/
namespace Dt
open PySem PySem.Spec PyProof.Rows L2 Evl LamX
/-- a lambda without captured names: its text, its code's object -/
structure LF where
  qual : Str
  params : Arguments
  body : Expr
  scope : Scope
  c : Addr
/-- the object at f is that lambda -/
def LamO (f : Addr) (F : LF) : HO := .ext fun h => ∃ pm ctv : Value, h.get? f = some (PySem.W.kla_obj "<lambda>" F.qual F.params F.body F.scope [] pm F.c ctv)
section
variable {X : Cx} {pins : List (Addr × Obj)} {σ : L2.St} {H : Hp} {s : Shared}
theorem inv_lam {F : LF} {pm ctv : Value} {t' : Nat} (I : Inv X pins σ H s) :
    Inv X pins σ (upd H s.heap.objs.size (LamO s.heap.objs.size F)) { s with heap := s.heap.push (PySem.W.kla_obj "<lambda>" F.qual F.params F.body F.scope [] pm F.c ctv), toks := t' } := by
  have at1 : (s.heap.push (PySem.W.kla_obj "<lambda>" F.qual F.params F.body F.scope [] pm F.c ctv)).get? s.heap.objs.size = some (PySem.W.kla_obj "<lambda>" F.qual F.params F.body F.scope [] pm F.c ctv) := Heap.get?_push_size _ rfl
  exact I.laid (fun b o e => Heap.get?_push_of_some _ e) (Nat.le_refl _) ⟨⟨pm, ctv, at1⟩, ⟨_, at1⟩, fun h1 h2 ⟨a, b, e⟩ st => ⟨a, b, st _ e⟩⟩
theorem lamO_at {P : Program} {w : World} {h : Heap} {f : Addr} {F : LF} (hok : HOk P w H h) (e : H f = some (LamO f F)) : ∃ pm ctv : Value, h.get? f = some (PySem.W.kla_obj "<lambda>" F.qual F.params F.body F.scope [] pm F.c ctv) := (hok f _ e).1
theorem lamO_ne {f : Addr} {F : LF} (ps : Array Value) : LamO f F ≠ .tbl ps := fun z => by
  unfold LamO at z
  cases z
/-- what a lambda's making gives -/
def tLam1 (T : List (Addr × Str)) (mk : Addr → LF) : TE := fun _ H Q => Tabs T H ∧ ∀ (f c' : Addr) (H1 : Hp), ExtN H H1 → (∀ b, H1 b = none → H b = none) → Tabs T H1 → H f = none → H1 f = some (LamO f (mk c')) → H1 c' = some (CodeO c' (mk c').qual) → Q (.ref f) H1
theorem clo_none {cells : List (Str × Addr)} {names : List (Str × NameKind)} (h : ∀ y ∈ names, y.2 ≠ .free) : cloFrom cells names [] = [] := by
  cases e : cloFrom cells names [] with
  | nil => rfl
  | cons q r =>
    rcases cloFrom_mem (show q ∈ cloFrom cells names [] by rw [e]; exact List.mem_cons_self) with z | ⟨z, _⟩
    · cases z
    · exact absurd rfl (h _ z)
/-- the table grown by one code object, known from now on -/
theorem tabs_grown {T : List (Addr × Str)} {P c' : Addr} {q : Str} {ps : Array Value} {pos : Pos} (hT : Tabs T H) (hu : ∀ p ∈ T, p.1 = P → p.2 = q) (hP : H P = some (.tbl ps)) (ht : TriplesOk ps.toList) (ha : ∀ (pos : Pos) (cv : Value), codeAmong pos ps.toList = some cv → ∃ c, cv = .ref c ∧ H c = some (CodeO c q)) (nC : H c' = none) :
    Tabs T (upd (upd H P (.tbl (ps ++ #[rawInt pos.line, rawInt pos.col, .ref c']))) c' (CodeO c' q)) ∧ ExtN H (upd (upd H P (.tbl (ps ++ #[rawInt pos.line, rawInt pos.col, .ref c']))) c' (CodeO c' q)) := by
  have nP : P ≠ c' := ne_of_none hP nC
  have ext : ExtN H (upd (upd H P (.tbl (ps ++ #[rawInt pos.line, rawInt pos.col, .ref c']))) c' (CodeO c' q)) := fun b o e n => by
    have n1 : b ≠ c' := ne_of_none e nC
    have n2 : b ≠ P := fun z => by
      rw [z, hP] at e
      exact n ps (Option.some.inj e).symm
    rw [upd_ne n1, upd_ne n2]; exact e
  refine ⟨fun p hp => ?_, ext⟩
  by_cases hb : p.1 = P
  · rw [hb, hu p hp hb]
    refine ⟨ps ++ #[rawInt pos.line, rawInt pos.col, .ref c'], by rw [upd_ne nP, upd_same], ?_, fun p' cv hcv => ?_⟩
    · rw [Array.toList_append]; exact PySem.TriplesOk_snoc _ _ _ _ ht
    · rw [Array.toList_append] at hcv
      rcases among_app _ ht hcv with z | z
      · obtain ⟨c0, e1, e2⟩ := ha p' cv z
        exact ⟨c0, e1, ext _ _ e2 codeO_ne⟩
      · exact ⟨c', z, upd_same⟩
  · obtain ⟨ps', a1, a2, a3⟩ := hT p hp
    refine ⟨ps', by rw [upd_ne (ne_of_none a1 nC), upd_ne hb]; exact a1, a2, fun p' cv hcv => ?_⟩
    obtain ⟨c0, e1, e2⟩ := a3 p' cv hcv
    exact ⟨c0, e1, ext _ _ e2 codeO_ne⟩
/-- lambda x, ..: body, no names captured -/
theorem pe_lam {T : List (Addr × Str)} {c P : Addr} {params : Arguments} {body : Expr} {scope : Scope} {pos : Pos} (TB : TabB X.base X.mg c P) (hcode : X.env.code = .ref c) (hm : (P, X.env.qual ++ "<lambda>") ∈ T) (hu : ∀ p ∈ T, p.1 = P → p.2 = X.env.qual ++ "<lambda>")
    (hdef : defaultsOf params X.env = ([], [])) (hnf : ∀ y ∈ scope.names, y.2 ≠ .free) : PE X (.Lambda params body scope pos) (tLam1 T fun c' => ⟨X.env.qual ++ "<lambda>", params, body, scope, c'⟩) := by
  refine ⟨fun pins s σ H Q I h => ?_⟩
  obtain ⟨hT, k⟩ := h
  obtain ⟨ps, hP, ht, ha⟩ := hT _ hm
  have clo : closureFor scope X.env = pure [] := by
    have z := closure_ok (env := X.env) (scope := scope) fun y hy e => absurd e (hnf y hy)
    rw [clo_none hnf] at z
    exact z
  refine PySem.W.kla_eval hdef ?_
  have hP' : s.heap.get? P = some { cls := .none, data := .fields ps } := I.hok P _ hP
  cases hc : codeAmong pos ps.toList with
  | none =>
    refine PySem.W.kla_makeFunction (mg := X.mg) (c := c) (P := P) (ps := ps) clo I.ok.glob (I.mod.glob.keeps I.bk) hcode (TB.code.keeps I.bk) hP' ht hc TB.gP (TB.bm.keeps I.bk) fun c' ctv h' tk hx hge hlt hrec htb => ?_
    obtain ⟨c2, oc, vs, t, e2, hoc, hd, hv⟩ := hrec
    cases e2
    have nC : H c' = none := I.hok.fresh hge
    have I1 := inv_table (t' := tk) (more := #[rawInt pos.line, rawInt pos.col, .ref c']) I hP hx htb hge ⟨oc, vs, t, hoc, hd, hv⟩
    have I2 := inv_lam (F := ⟨X.env.qual ++ "<lambda>", params, body, scope, c'⟩) (pm := (X.mg "__name__").getD .none) (ctv := ctv) (t' := tk) I1
    obtain ⟨T1, E1⟩ := tabs_grown (pos := pos) hT hu hP ht ha nC
    have nF : upd (upd H P (.tbl (ps ++ #[rawInt pos.line, rawInt pos.col, .ref c']))) c' (CodeO c' (X.env.qual ++ "<lambda>")) h'.objs.size = none := I1.hok.fresh (Nat.le_refl _)
    have back : ∀ b, upd (upd H P (.tbl (ps ++ #[rawInt pos.line, rawInt pos.col, .ref c']))) c' (CodeO c' (X.env.qual ++ "<lambda>")) b = none → H b = none := fun b z => by
      have z1 := NdefX.upd_none z
      exact NdefX.upd_none z1
    refine ⟨.ref h'.objs.size, _, I2, rfl, k _ c' _ (E1.trans (ExtN.of (Ex.new nF))) (fun b z => back b (NdefX.upd_none z)) (T1.ext (Ex.new nF)) (back _ nF) upd_same (Ex.new nF _ _ upd_same)⟩
  | some cv =>
    obtain ⟨c', e, hco⟩ := ha pos cv hc
    subst e
    refine PySem.W.kla_makeFunctionHit (mg := X.mg) (c := c) (P := P) (ps := ps) clo I.ok.glob (I.mod.glob.keeps I.bk) hcode (TB.code.keeps I.bk) hP' ht hc (TB.bm.keeps I.bk) fun ctv h' tk hx hsz => ?_
    have I1 : Inv X pins σ H { s with heap := h', toks := tk } := I.kept hx
    have I2 := inv_lam (F := ⟨X.env.qual ++ "<lambda>", params, body, scope, c'⟩) (pm := (X.mg "__name__").getD .none) (ctv := ctv) (t' := tk) I1
    have nF : H h'.objs.size = none := I1.hok.fresh (Nat.le_refl _)
    exact ⟨.ref h'.objs.size, _, I2, rfl, k _ c' _ (ExtN.of (Ex.new nF)) (fun b z => NdefX.upd_none z) (hT.ext (Ex.new nF)) nF upd_same (Ex.new nF _ _ hco)⟩
end
/-! ### the lambda called -/
def LF.nf (F : LF) : NdefX.NF := ⟨"<lambda>", F.qual, F.params, [], F.scope, [], F.c⟩
/-- the lambda F, wherever its object stands: it answers or it refuses as told -/
def RunL (P : Program) (w : World) (K : PySem.W.Frag) (mg : Str → Option Value) (base : Heap) (k : Nat) (F : LF) (sp : Sp) : Prop :=
  ∀ (f : Addr) (A : Around) (outer : List Env) (s : Shared) (H : Hp) (us : List Value) (vs : List V) (Q : VK) (E : XK), Room k A → Env0 P w K mg base A outer s H → H f = some (LamO f F) → H F.c = some (CodeO F.c F.qual) → Vals vs us → sp vs H Q E →
    codeAny (model P w) A (.call (.ref f) ⟨us, []⟩) (CR (L2N.CX P w) outer P w H s Q E) s
theorem no_cells {h : Heap} {H : Hp} : NdefX.CellsAt [] [] [] h H := ⟨rfl, (fun y c z => nomatch z), (fun x y c z => nomatch z), fun i y z => by simp at z⟩
theorem lam_run {P : Program} {w : World} {K : PySem.W.Frag} {mg : Str → Option Value} {base : Heap} {N ps : List Str} {F : LF} {k : Nat} {sp : Sp} (S : NdefX.NScope N ps [] F.scope)
    (hb : ∀ (pm ctv : Value) (us : List Value), us.length = ps.length → bindArgs (PySem.W.kla_fn "<lambda>" F.qual F.params F.body F.scope [] pm (.ref F.c) ctv) ⟨us, []⟩ = pure (ps.zip us)) (len : ∀ vs H Q E, sp vs H Q E → vs.length = ps.length)
    (hbody : ∀ (f : Addr) (A : Around) (outer : List Env) (s : Shared) (H : Hp) (vs : List V) (Q : VK) (E : XK), Room k (A.deeper (NdefX.envF F.nf f s.heap.objs.size)) → sp vs H Q E →
      ∃ t, PE (NdefX.ncx (L2N.CX P w) P w K mg base N F.nf f A outer s H E) F.body t ∧ t (NdefX.startF N vs []) H Q) : RunL P w K mg base (k + 1) F sp := by
  intro f A outer s H us vs Q E room e0 hf hc r h
  have lv := len _ _ _ _ h
  have NL : s.heap.NoLimit := e0.mod.nolimit.keeps fun c o e => (e0.bs c o e).1
  obtain ⟨pm, ctv, ho⟩ := lamO_at e0.hok hf
  refine PySem.W.kla_callFunE room.depth ho rfl S.co S.gen rfl (NdefX.codeO_at e0.hok hc) ?_
  rw [hb pm ctv us (by rw [← r.length]; exact lv)]
  refine wpAny_pure (wpAny_newFunctionEnv S.nocell (fun y hy => S.par y.1 (List.of_mem_zip hy).1) (fun h1 ns sb => ⟨NL.fresh _ sb, ?_⟩) S.kind)
  obtain ⟨t, pt, ht⟩ := hbody f A outer s H vs Q E (room.deeper _) h
  have kp : ∀ b o, s.heap.get? b = some o → h1.get? b = some o := fun b o e => sb.extBut b o (Nat.ne_of_lt (Heap.lt_size e)) (Heap.get?_push_of_some _ e)
  have J := NdefX.inv_startN (CX := L2N.CX P w) (F := F.nf) (f := f) (E := E) (tk := s.toks + (ps.zip us).length) S room.hd e0 lv r no_cells ns kp
  refine PySem.W.kla_codeExpr (wpAny_mono (pt.run [] _ _ H Q J ht) (fun v s2 k2 => ?_) fun _ _ z => z)
  obtain ⟨v2, H2, J2, rv, q2⟩ := k2
  exact ⟨v2, H2, J2.os, J2.bare, J2.base, J2.hok, rv, q2⟩
/-- what may be asked: a def of the text, or a lambda that stands in the heap -/
def Asks (P : Program) (w : World) (K : PySem.W.Frag) (mg : Str → Option Value) (base : Heap) (k : Nat) (f : Addr) (H : Hp) (sp : Sp) : Prop :=
  (RunX P w K mg base k f sp ∧ PySem.W.keepIn K (.ref f) = true) ∨ ∃ F : LF, H f = some (LamO f F) ∧ H F.c = some (CodeO F.c F.qual) ∧ RunL P w K mg base k F sp
theorem Asks.mono {P : Program} {w : World} {K : PySem.W.Frag} {mg : Str → Option Value} {base : Heap} {k : Nat} {f : Addr} {H H' : Hp} {sp : Sp} (a : Asks P w K mg base k f H sp) (e : ExtN H H') : Asks P w K mg base k f H' sp := by
  rcases a with z | ⟨F, h1, h2, h3⟩
  · exact .inl z
  · exact .inr ⟨F, e _ _ h1 lamO_ne, e _ _ h2 codeO_ne, h3⟩
/-- the local name in slot i asked; the arguments are plain -/
def tAsk (P : Program) (w : World) (K : PySem.W.Frag) (mg : Str → Option Value) (base : Heap) (k i : Nat) (W : WX) (t : TA) : TE := fun σ H Q => ∃ f sp, σ[i]? = some (some (.ref f)) ∧ Asks P w K mg base k f H sp ∧ t σ H fun vs H1 => H1 = H ∧ sp vs H1 Q (WE W σ)
section
variable {X : Cx} {k j i : Nat} {x : Str} {p pos : Pos} {e : Expr} {es : List Expr} {t : TA} {W : WX}
theorem pe_ask (hr : Room j X.A) (hk : k ≤ j) (tk : L2N.Takes X W) (hN : X.N[i]? = some x) (hv : Vis X.env.scope x) (ha : PA X (e :: es) t)
    (hd : (x == ("__debug__" : Str)) = false := by decide) (hcd : (x == ("__classdict__" : Str)) = false := by decide)
    (he : starEach (e :: es) X.env = (false, eval e X.env) :: starEach es X.env := by rfl) (hpl : (backTo pos (starEach es X.env)).any (·.1) = false := by rfl) :
    PE X (.Call (.Name x p) (e :: es) [] pos) (tAsk X.prog X.w X.K X.mg X.base k i W t) := by
  refine ⟨fun pins s σ H Q I h => ?_⟩
  obtain ⟨f, sp, hs, as, ht⟩ := h
  refine wpAny_Call_Name_kw (thn ((pe_var (pos := p) hN hv hd hcd).run pins s σ H (fun v H1 => v = .ref f ∧ H1 = H) I ⟨.ref f, hs, rfl, rfl⟩) fun u s1 k1 => ?_)
  obtain ⟨v, H1, I1, r1, rfl, rfl⟩ := k1
  obtain rfl : u = Value.ref f := r1
  rcases as with ⟨F, kp⟩ | ⟨F, h1, h2, R⟩
  · refine PySem.W.callWith_K (h₀ := X.base) I.ok.mod.kin kp (thn (ha.run pos pins s1 σ _ _ I1 ht) fun us s2 k2 => ?_) he hpl
    obtain ⟨vs, H2, I2, r, rfl, q⟩ := k2
    exact ⟨I2.kIn, run_x F (hr.mono hk) tk I2 r q⟩
  · have at1 : ∀ {s' : Shared}, Inv X pins σ H1 s' → PySem.W.FnAt f s'.heap := fun {s'} J => by
      obtain ⟨pm, ctv, ho⟩ := lamO_at J.hok h1
      exact ⟨_, _, _, _, ho⟩
    refine PySem.W.callWith_F (first := []) (at1 I1) (thn (ha.run pos pins s1 σ _ _ I1 ht) fun us s2 k2 => ?_) he hpl
    obtain ⟨vs, H2, I2, r, rfl, q⟩ := k2
    refine ⟨at1 I2, wpAny_call (codeAny_mono (R f X.A X.stack s2 H2 us vs Q (WE W σ) (hr.mono hk) I2.env0 h1 h2 r q) fun res s3 k3 => ?_)⟩
    cases res with
    | error e => exact L2N.passAt tk σ pins H2 s2 e s3 I2 k3
    | ok fl =>
      cases fl with
      | ret u => exact I2.after k3
      | next => exact (show False from k3).elim
      | brk => exact (show False from k3).elim
      | cont => exact (show False from k3).elim
end
/-! ### in the suite: the error by its class alone -/
theorem hot_of {A : Around} {a : Addr} {oe : Obj} {cls : Value} {d : Option Addr} (hz : L2N.Zn cls d oe) (hf : ∃ vs, oe.data = .fields vs) : L2H.Hot1 (A.mark (some (.ref a))) (a, oe) := by
  obtain ⟨vs, hv⟩ := hf
  exact ⟨rfl, vs, hv, hz.2.2 vs hv⟩
/-- the def called in the suite -/
def tCallZ (a : Addr) (cls : Value) (d : Option Addr) (sp : Addr → Addr → Sp) (t : TA) : TE := fun σ H Q => ∃ D, cls = .ref D ∧ d = none ∧ t σ H fun vs H1 => sp a D vs H1 Q E0
theorem pe_dz {X : Cx} {k j : Nat} {x : Str} {sp : Addr → Addr → Sp} {p pos : Pos} {e : Expr} {es : List Expr} {t : TA} {a : Addr} {oe : Obj} {cls : Value} {d : Option Addr} {pn : List (Addr × Obj)} (c : CalE X.prog X.w X.K X.mg X.base k x sp) (hr : Room j X.A) (hk : k ≤ j) (hz : L2N.Zn cls d oe) (hf : ∃ vs, oe.data = .fields vs)
    (hg : Gl (X.suite a ((a, oe) :: pn)) x) (ha : PA (X.suite a ((a, oe) :: pn)) (e :: es) t)
    (hdb : (x == ("__debug__" : Str)) = false := by decide) (he : starEach (e :: es) X.env = (false, eval e X.env) :: starEach es X.env := by rfl) (hpl : (backTo pos (starEach es X.env)).any (·.1) = false := by rfl) :
    PE (X.suite a ((a, oe) :: pn)) (.Call (.Name x p) (e :: es) [] pos) (tCallZ a cls d sp t) := by
  refine ⟨fun pins s σ H Q I h => ?_⟩
  obtain ⟨D, rfl, rfl, h⟩ := h
  exact (pe_de (X := X.suite a ((a, oe) :: pn)) (pe := (a, oe)) (t := t) c (show L2H.RoomH j (X.A.mark (some (.ref a))) from ⟨hr.dp, hr.un⟩) hk (hot_of hz hf) List.mem_cons_self hg ha hdb he hpl).run pins s σ H Q I ⟨D, ⟨hz.1, hz.2.1⟩, h⟩
end Dt
namespace Dt
/-! For k11: great numbers. -/
theorem opn_one (t d : Int) : opn [t] d = decide (d % t = 0) := by
  unfold opn
  rw [hits_one]
  by_cases h : d % t = 0 <;> simp [h]
theorem opn_two (t u d : Int) : opn [t, u] d = (decide (d % t = 0) != decide (d % u = 0)) := by
  have e := opn_app [t] [u] d
  rw [opn_one, opn_one] at e
  exact e
theorem cnt_div {t : Int} (ht : 0 < t) : ∀ n : Nat, ((cnt [t] n : Nat) : Int) = (n : Int) / t
  | 0 => by simp [cnt]
  | n + 1 => by
    have ih := cnt_div ht n
    have e := div_succ (n := n) ht
    have e2 : ((n + 1 : Nat) : Int) = (n : Int) + 1 := by omega
    rw [e2, e, ← ih, cnt, opn_one]
    by_cases h : (1 + (n : Int)) % t = 0 <;> simp [h]
theorem kept_one (t : Int) : IsKept [t] [t] := ⟨by simp, fun x => by
  simp only [List.count_cons, List.count_nil, List.mem_cons, List.not_mem_nil, beq_iff_eq, or_false]
  by_cases h : t = x
  · simp [h]
  · have : ¬ x = t := fun z => h z.symm
    simp [h, this]⟩
theorem kept_pair {g h : Int} (hne : g ≠ h) : IsKept [g, g, h] [h] := ⟨by simp, fun x => by
  simp only [List.count_cons, List.count_nil, List.mem_cons, List.not_mem_nil, beq_iff_eq, or_false]
  by_cases a : g = x <;> by_cases b : h = x <;> simp [a, b] <;> omega⟩
theorem kept_mid {g : Int} (hg : 100 ≤ g) : IsKept [g, 5, 5, g + 1] [g, g + 1] := ⟨by simp; omega, fun x => by
  simp only [List.count_cons, List.count_nil, List.mem_cons, List.not_mem_nil, beq_iff_eq, or_false]
  repeat (first | omega | split)⟩
theorem kept_two {g : Int} : IsKept [g, g] [] := ⟨by simp, fun x => by
  simp only [List.count_cons, List.count_nil, List.mem_cons, List.not_mem_nil, beq_iff_eq, or_false]
  by_cases a : g = x <;> simp [a]⟩
theorem rnd_one {g : Int} (hg : 0 < g) : rnd [g] = g := by
  have e := rnd_snoc [] g
  have e2 : rnd [] = 1 := rfl
  rw [e2, lcm_one g hg] at e
  exact e
end Dt
/-! Things that are refused: their kinds. -/
namespace Dt
open PySem PySem.Spec PyProof.Rows L2 Evl LamX
section
variable {K : PySem.W.Frag} {H H' : Hp} {v : V} {t : Value}
theorem TyX.ext (e : ExtN H H') (h : TyX K H v t) : TyX K H' v t := by
  cases h with
  | base b =>
    cases b with
    | non => exact .base .non
    | bl x => exact .base (.bl x)
    | int x => exact .base (.int x)
    | str x => exact .base (.str x)
    | flt x => exact .base (.flt x)
    | lst h => exact .base (.lst (e _ _ h fun ps z => by cases z))
    | frz h => exact .base (.frz (e _ _ h fun ps z => by cases z))
    | tup h => exact .base (.tup (e _ _ h fun ps z => by cases z))
    | dK h => exact .base (.dK (e _ _ h fun ps z => by cases z))
    | dT h => exact .base (.dT (e _ _ h fun ps z => by cases z))
    | ins h a b c d f => exact .base (.ins (e _ _ h fun ps z => by cases z) a b c d f)
  | byt b => exact .byt b
  | set h => exact .set (e _ _ h fun ps z => by cases z)
  | kList h c => exact .kList h c
  | kTuple h c => exact .kTuple h c
  | kDict h c => exact .kDict h c
  | fTuple h => exact .fTuple (e _ _ h fun ps z => by cases z)
  | fDict h => exact .fDict (e _ _ h fun ps z => by cases z)
theorem sqL_ext {a : Addr} {xs : List V} (e : ExtN H H') (h : SqL K H a xs) : SqL K H' a xs := by
  rcases h with (h | ⟨o, h⟩) | h
  · exact .inl (.inl (e _ _ h fun ps z => by cases z))
  · exact .inl (.inr ⟨o, e _ _ h fun ps z => by cases z⟩)
  · exact .inr h
theorem ext_of (e : Ex H H') : ExtN H H' := ExtN.of e
/-- a thing of a built-in kind that is no t -/
def NoK (K : PySem.W.Frag) (t : String) (H : Hp) (v : V) : Prop := ∃ T : String, TyX K H v (.type T) ∧ kitB T t = some false
theorem NoK.ext {t : String} (h : NoK K t H v) (e : ExtN H H') : NoK K t H' v := by
  obtain ⟨T, a, b⟩ := h
  exact ⟨T, TyX.ext e a, b⟩
/-- an int of which p says so, a truth, or no int at all -/
def NotI (K : PySem.W.Frag) (p : Int → Prop) (H : Hp) (v : V) : Prop := (∃ n : Int, v = .int n ∧ p n) ∨ (∃ b, v = .bl b) ∨ NoK K "int" H v
theorem NotI.ext {p : Int → Prop} (h : NotI K p H v) (e : ExtN H H') : NotI K p H' v := by
  rcases h with h | h | h
  · exact .inl h
  · exact .inr (.inl h)
  · exact .inr (.inr (h.ext e))
theorem NotI.imp {p q : Int → Prop} (h : NotI K p H v) (i : ∀ n, p n → q n) : NotI K q H v := by
  rcases h with ⟨n, a, b⟩ | h | h
  · exact .inl ⟨n, a, i n b⟩
  · exact .inr (.inl h)
  · exact .inr (.inr h)
/-- any thing of a known kind -/
abbrev Pl (K : PySem.W.Frag) (H : Hp) (v : V) : Prop := NotI K (fun _ => True) H v
def isN : V → Bool
  | .int n => decide (0 < n)
  | _ => false
theorem isN_no (h : NoK K "int" H v) : isN v = false := by
  obtain ⟨T, a, b⟩ := h
  cases v with
  | int n =>
    cases a with
    | base c => cases c; exact absurd b (by decide +kernel)
  | _ => rfl
theorem isN_bad (h : NotI K (fun n => n ≤ 0) H v) : isN v = false := by
  rcases h with ⟨n, rfl, h⟩ | ⟨b, rfl⟩ | h
  · exact decide_eq_false (by omega)
  · rfl
  · exact isN_no h
/-- no turners -/
def NotT (K : PySem.W.Frag) (H : Hp) (v : V) : Prop := NoK K "list" H v ∨ ∃ (a : Addr) (vs : List V), v = .ref a ∧ SqL K H a vs ∧ (40 < vs.length ∨ (vs.length ≤ 40 ∧ (∀ x ∈ vs, Pl K H x) ∧ ∃ x ∈ vs, isN x = false))
theorem NotT.ext (h : NotT K H v) (e : ExtN H H') : NotT K H' v := by
  rcases h with h | ⟨a, vs, r, s, h⟩
  · exact .inl (h.ext e)
  · refine .inr ⟨a, vs, r, sqL_ext e s, ?_⟩
    rcases h with h | ⟨h1, h2, h3⟩
    · exact .inl h
    · exact .inr ⟨h1, fun x hx => (h2 x hx).ext e, h3⟩
def okD (n : Int) : V → Bool
  | .int m => decide (0 < m) && decide (m ≤ n)
  | _ => false
theorem okD_of (n : Int) (v : V) : okD n v = true → isN v = true := by
  cases v <;> simp [okD, isN]
  intro h _
  exact h
/-- no rising list of doors up to n -/
def NotDs (K : PySem.W.Frag) (n : Int) (H : Hp) (v : V) : Prop := NoK K "list" H v ∨ ∃ (a : Addr) (vs : List V), v = .ref a ∧ SqL K H a vs ∧ vs.length ≤ 1000 ∧ ((∀ x ∈ vs, Pl K H x) ∧ (∃ x ∈ vs, okD n x = false) ∨
  ∃ D : List Int, vs = D.map V.int ∧ (∀ x ∈ D, 1 ≤ x ∧ x ≤ n) ∧ ∃ i, i + 1 < D.length ∧ D.getD (i + 1) 0 ≤ D.getD i 0)
theorem NotDs.ext {n : Int} (h : NotDs K n H v) (e : ExtN H H') : NotDs K n H' v := by
  rcases h with h | ⟨a, vs, r, s, l, h⟩
  · exact .inl (h.ext e)
  · refine .inr ⟨a, vs, r, sqL_ext e s, l, ?_⟩
    rcases h with ⟨h2, h3⟩ | h
    · exact .inl ⟨fun x hx => (h2 x hx).ext e, h3⟩
    · exact .inr h
theorem given_vals (vs : List V) (f : V → Bool) : given vs.length (fun _ => true) (fun i => V.bl (f (vs.getD i .non))) = (vs.map f).map V.bl := by
  rw [given_true vs.length fun i => f (vs.getD i .non)]
  congr 1
  have key : ∀ l : List V, (List.range l.length).map (fun i => f (l.getD i .non)) = l.map f := by
    intro l
    induction l with
    | nil => rfl
    | cons x r ih =>
      rw [List.length_cons, List.range_succ_eq_map, List.map_cons, List.map_map, List.map_cons]
      have e2 : ((fun i => f ((x :: r).getD i .non)) ∘ Nat.succ) = fun i => f (r.getD i .non) := by funext i; simp
      rw [e2, ih]
      simp
  exact key vs
theorem getD_at {vs : List V} {i : Nat} {x : V} (h : vs[i]? = some x) : vs.getD i .non = x ∧ x ∈ vs := ⟨by rw [List.getD_eq_getElem?_getD, h]; rfl, List.mem_of_getElem? h⟩
theorem all_bad {vs : List V} {f : V → Bool} (h : ∃ x ∈ vs, f x = false) : (vs.map f).all id = false := by
  obtain ⟨x, hx, e⟩ := h
  rw [Bool.eq_false_iff]
  intro z
  have := List.all_eq_true.mp z (f x) (List.mem_map.mpr ⟨x, hx, rfl⟩)
  rw [e] at this
  cases this
end
theorem RunL.mono {P : Program} {w : World} {K : PySem.W.Frag} {mg : Str → Option Value} {base : Heap} {j k : Nat} {F : LF} {sp : Sp} (c : RunL P w K mg base j F sp) (h : j ≤ k) : RunL P w K mg base k F sp :=
  fun f A outer s H us vs Q E hr => c f A outer s H us vs Q E (hr.mono h)
theorem CalX.imp {P : Program} {w : World} {K : PySem.W.Frag} {mg : Str → Option Value} {base : Heap} {k : Nat} {x : Str} {s t : Sp} (c : CalX P w K mg base k x s) (i : ∀ vs H Q E, t vs H Q E → s vs H Q E) : CalX P w K mg base k x t := by
  obtain ⟨f, F, m, kp⟩ := c.ex
  exact ⟨f, fun A outer s H us vs Q E hr e0 KX r h => F A outer s H us vs Q E hr e0 KX r (i _ _ _ _ h), m, kp⟩
/-! ### lambdas of one parameter, asked -/
def spRef (H0 : Hp) (v : V) (D : Addr) : Sp := fun vs H _ E => vs = [v] ∧ H = H0 ∧ ∀ H2, Ex H0 H2 → E (.ref D) none H2
theorem c_lam {T : List (Addr × Str)} {mk : Addr → LF} {σ : L2.St} {H : Hp} {Q : VK} (hT : Tabs T H) (k : ∀ (f c' : Addr) (H1 : Hp), ExtN H H1 → (∀ b, H1 b = none → H b = none) → Tabs T H1 → H f = none → H1 f = some (LamO f (mk c')) → H1 c' = some (CodeO c' (mk c').qual) → Q (.ref f) H1) : tLam1 T mk σ H Q := ⟨hT, k⟩
theorem asks_lam {P : Program} {w : World} {K : PySem.W.Frag} {mg : Str → Option Value} {base : Heap} {F : LF} {f : Addr} {H : Hp} {x : Str} {v : V} {D : Addr} (hf : H f = some (LamO f F)) (hc : H F.c = some (CodeO F.c F.qual))
    (S : NdefX.NScope [x] [x] [] F.scope) (hb : ∀ (pm ctv : Value) (us : List Value), us.length = 1 → bindArgs (PySem.W.kla_fn "<lambda>" F.qual F.params F.body F.scope [] pm (.ref F.c) ctv) ⟨us, []⟩ = pure ([x].zip us))
    (hbody : ∀ (f : Addr) (A : Around) (outer : List Env) (s : Shared) (Q : VK) (E : XK), Room 4 (A.deeper (NdefX.envF F.nf f s.heap.objs.size)) → (∀ H2, Ex H H2 → E (.ref D) none H2) →
      ∃ t, PE (NdefX.ncx (L2N.CX P w) P w K mg base [x] F.nf f A outer s H E) F.body t ∧ t [some v] H Q) : Asks P w K mg base 5 f H (spRef H v D) := by
  refine .inr ⟨F, hf, hc, lam_run S hb (fun vs H' Q E h => ?_) (fun f A outer s H' vs Q E hr h => ?_)⟩
  · obtain ⟨rfl, _⟩ := h
    rfl
  · obtain ⟨rfl, rfl, q⟩ := h
    exact hbody f A outer s Q E hr q
theorem asks_def {P : Program} {w : World} {K : PySem.W.Frag} {mg : Str → Option Value} {base : Heap} {f : Addr} {H : Hp} {x : Str} {v : V} {D : Addr} {k : Nat} {sp : Sp} (c : CalX P w K mg base k x sp) (hm : mg x = some (.ref f)) (hk : k ≤ 5) (i : ∀ Q E, (∀ H2, Ex H H2 → E (.ref D) none H2) → sp [v] H Q E) : Asks P w K mg base 5 f H (spRef H v D) := by
  obtain ⟨f', F, m, kp⟩ := c.ex
  rw [hm] at m
  cases m
  exact .inl ⟨fun A outer s H' us vs Q E hr e0 KX r h => by
    obtain ⟨rfl, rfl, q⟩ := h
    exact F A outer s _ us _ Q E (hr.mono hk) e0 KX r (i Q E q), kp⟩
/-! ### defs that make lambdas: their code objects -/
structure DfC (K : PySem.W.Frag) (mg : Str → Option Value) (x : Str) (st : Stmt) (ps : List Str) (c : Addr) : Prop where
  ex : ∃ (f : Addr) (oc : Value) (od : Option Addr) (kV doc pm : Value) (an : Option Addr) (ct : Value) (osl : Array (Option Value)), K.lookup f = some ⟨oc, od, .func (PySem.W.fnOf x x (defArgs st) (defBody st) (defScope st) .none kV doc pm an (.ref c) ct), osl⟩ ∧ PySem.W.codeIn K (.ref c) x = true ∧ PySem.W.keepIn K (.ref f) = true ∧ mg x = some (.ref f) ∧
    Binds K (PySem.W.fnOf x x (defArgs st) (defBody st) (defScope st) .none kV doc pm an (.ref c) ct) ps []
theorem dfc_mk {K : PySem.W.Frag} {mg : Str → Option Value} {h : Heap} {x : Str} {st : Stmt} {ps : List Str} {f c : Addr} {oc : Value} {od an : Option Addr} {osl : Array (Option Value)} {kV doc pm ct : Value} (X : K.In h) (G : h.Ns mainGlobals mg)
    (a : PySem.W.nsIn K mainGlobals x = some (some (.ref f))) (l : K.lookup f = some ⟨oc, od, .func (PySem.W.fnOf x x (defArgs st) (defBody st) (defScope st) .none kV doc pm an (.ref c) ct), osl⟩) (q : PySem.W.codeIn K (.ref c) x = true) (k : PySem.W.keepIn K (.ref f) = true)
    (hb : ∀ (kV doc pm : Value) (an : Option Addr) (cdv ct : Value) (us : List Value), us.length = ps.length → bindArgs (PySem.W.fnOf x x (defArgs st) (defBody st) (defScope st) .none kV doc pm an cdv ct) ⟨us, []⟩ = pure (ps.zip us)) : DfC K mg x st ps c :=
  ⟨f, oc, od, kV, doc, pm, an, ct, osl, l, q, k, PySem.W.mg_of X G a, (fun_mk l q k).binds hb⟩
section
variable {P : Program} {w : World} {K : PySem.W.Frag} {mg : Str → Option Value} {base : Heap}
theorem okC {x : Str} {st : Stmt} {N ps : List Str} {k : Nat} {sp : Sp} {f c : Addr} {oc : Value} {od an : Option Addr} {osl : Array (Option Value)} {kV doc pm ct : Value} (lk : K.lookup f = some ⟨oc, od, .func (PySem.W.fnOf x x (defArgs st) (defBody st) (defScope st) .none kV doc pm an (.ref c) ct), osl⟩) (hcd : PySem.W.codeIn K (.ref c) x = true) (S : FnScope N ps (defScope st)) (len : ∀ vs H Q E, sp vs H Q E → vs.length = ps.length)
    (hbody : ∀ (f : Addr) (A : Around) (outer : List Env) (s : Shared) (H : Hp) (vs : List V) (Q : VK) (E : XK), Room k (A.deeper (envOfC x (defScope st) s.heap.objs.size f (.ref c))) → sp vs H Q E →
      ∃ t, PSs (cxOf CX0 P w K mg base N x (defScope st) f (.ref c) A outer s H E).nox (defBody st) t ∧ t { nx := fun _ H' => Q .non H', rt := Q } (start N vs) H) : FnOk P w K mg base CX0 (k + 1) f (PySem.W.fnOf x x (defArgs st) (defBody st) (defScope st) .none kV doc pm an (.ref c) ct) ps sp :=
  fn_of lk hcd S len fun A outer s H vs Q E hr h => by
    obtain ⟨t, p, q⟩ := hbody f A outer s H vs Q E hr h
    exact ⟨t, PSs.nox p, q⟩
theorem DfC.ok {x : Str} {st : Stmt} {N ps : List Str} {k : Nat} {sp : Sp} {c : Addr} (F : DfC K mg x st ps c) (S : FnScope N ps (defScope st)) (len : ∀ vs H Q E, sp vs H Q E → vs.length = ps.length)
    (hbody : ∀ (f : Addr) (A : Around) (outer : List Env) (s : Shared) (H : Hp) (vs : List V) (Q : VK) (E : XK), Room k (A.deeper (envOfC x (defScope st) s.heap.objs.size f (.ref c))) → sp vs H Q E →
      ∃ t, PSs (cxOf CX0 P w K mg base N x (defScope st) f (.ref c) A outer s H E).nox (defBody st) t ∧ t { nx := fun _ H' => Q .non H', rt := Q } (start N vs) H) : Cal P w K mg base CX0 (k + 1) x sp := by
  obtain ⟨f, oc, od, kV, doc, pm, an, ct, osl, l, q, kp, m, b⟩ := F.ex
  exact ⟨f, _, ps, okC l q S len hbody, m, kp, b⟩
end
/-! ### the end, with the tables of the defs xs -/
theorem walk_ofTa {l : PySem.W.OpenLaw} {n k : Nat} {q : Program} {loose : List Str} {XP : (Str → Option Value) → Heap → Prop} {YP : World → Heap → Prop} {d : DefRec} {K : Params → PySem.W.Frag} {CX : World → CXT} {x : Str} (xs : List Str)
    (hn : l.most = some n) (hn2 : n ≤ sizeLine) (hdf : d.params.defaults = []) (hr : Room k callerA) (hrec : (xs.all fun y => ((recsOf q).find? fun e => e.name == y).isSome) = true) (hY : ∀ (w : World) (h : Heap), YP w h → (K w.params).In h)
    (F : ∀ (w : World) (mg : Str → Option Value) (fa : Addr) (h : Heap), (K w.params).In h → h.Ns mainGlobals mg → mg d.name = some (.ref fa) → (∀ y ∈ xs, ∀ c P, PySem.W.tabIn (K w.params) y = some (c, P) → PySem.W.CodeHd h c P ∧ h.get? P = some (PySem.W.tabObj #[])) → LawAtS l w (K w.params) (CX w) k n x mg fa h)
    (hCX : ∀ (w : World) (H : Hp) (s : Shared) (e : Value) (s' : Shared), CX w [] H s (fun _ _ _ => False) e s' → False) :
    PySem.W.WalkO q loose XP YP l.row.toRowW d [] (fun f vs => PySem.call f vs) := by
  refine Att.attach_callB hn hdf fun w s₀ s₁ mg mb fa o pm cd doc a vs ns G Y ho hd hcd hmg hobj hints hlen hbits hg => ?_
  have KX := hY w _ Y
  have own : ∀ y ∈ xs, ∀ c P, PySem.W.tabIn (K w.params) y = some (c, P) → PySem.W.CodeHd s₁.heap c P ∧ s₁.heap.get? P = some (PySem.W.tabObj #[]) := fun y hy c P e => by
    obtain ⟨dL, hm⟩ := Option.isSome_iff_exists.mp (List.all_eq_true.mp hrec y hy)
    exact PySem.W.tab_of G.T KX hm e
  obtain ⟨fd, cs, sp, hT, nT, C, hb, hsp, hF⟩ := F w mg fa _ KX G.T.g hmg own
  exact law_callTs KX G.T.g G.T.b G.T.builtins G.T.nolimit hg hT nT C G.T.bmain hobj hints (Nat.le_trans hlen hn2) hr hF hb (fun H hH hS => hsp H a ns hlen hbits hH hS) fun H e s' => hCX w H s₁ e s'
/-! ### six classes; the tables' facts -/
abbrev lamQ (x : Str) : Str := x ++ ".<locals>." ++ "<lambda>"
def six (a b c d e f : Addr) : Nat → Addr
  | 0 => a
  | 1 => b
  | 2 => c
  | 3 => d
  | 4 => e
  | _ => f
theorem by_six {R : Nat → Prop} (h0 : R 0) (h1 : R 1) (h2 : R 2) (h3 : R 3) (h4 : R 4) (h5 : R 5) : ∀ i, i < 6 → R i
  | 0, _ => h0
  | 1, _ => h1
  | 2, _ => h2
  | 3, _ => h3
  | 4, _ => h4
  | 5, _ => h5
  | n + 6, h => absurd h (by omega)
theorem kit_ve {K : PySem.W.Frag} {C : Addr} (h : PySem.W.subIn K (.ref C) (.type "ValueError") = some true) : PySem.W.kitOne K (.ref C) (.type "ValueError") = some true := by
  unfold PySem.W.kitOne
  rw [if_neg (by intro z; cases beq_iff_eq.mp z)]
  show (if PySem.W.kitMeta "ValueError" = true then PySem.W.subIn K (.ref C) (.type "ValueError") else none) = some true
  rw [if_pos (by decide +kernel)]
  exact h
theorem tab_by {K : PySem.W.Frag} {x : Str} {f c P : Addr} {o1 o3 : Value} {o2 o4 : Option Addr} {fd : FuncData} {s1 s2 : Array (Option Value)} {fv : Array Value} (a : PySem.W.nsIn K mainGlobals x = some (some (.ref f))) (l : K.lookup f = some ⟨o1, o2, .func fd, s1⟩) (hc : fd.code = .ref c) (lc : K.lookup c = some ⟨o3, o4, .fields fv, s2⟩) (lp : fv[11]? = some (.ref P)) : PySem.W.tabIn K x = some (c, P) := by
  unfold PySem.W.tabIn
  rw [a]
  dsimp only
  rw [l]
  dsimp only
  rw [hc]
  dsimp only
  rw [lc]
  dsimp only
  rw [lp]
end Dt
/-! The heap without one list that is still written; kinds of things; asks of many things. -/
namespace Dt
open PySem PySem.Spec PyProof.Rows L2 Evl LamX
def del (H : Hp) (p : Addr) : Hp := fun b => if b = p then none else H b
theorem del_ex {H : Hp} {p : Addr} : Ex (del H p) H := fun b o e => by
  unfold del at e
  split at e
  · cases e
  · exact e
theorem del_at {H : Hp} {p b : Addr} {o : HO} (h : H b = some o) (n : b ≠ p) : del H p b = some o := by
  unfold del
  rw [if_neg n]; exact h
theorem del_upd {H : Hp} {p : Addr} {o : HO} : del (upd H p o) p = del H p := by
  funext b
  unfold del
  by_cases h : b = p
  · rw [if_pos h, if_pos h]
  · rw [if_neg h, if_neg h, upd_ne h]
theorem del_mono {H H' : Hp} {p : Addr} (e : Ex H H') : Ex (del H p) (del H' p) := fun b o h => by
  unfold del at h ⊢
  by_cases z : b = p
  · rw [if_pos z] at h; cases h
  · rw [if_neg z] at h ⊢; exact e _ _ h
theorem del_new {H H' : Hp} {p : Addr} (e : Ex H H') (n : H p = none) : Ex H (del H' p) := fun b o h => del_at (e _ _ h) (ne_of_none h n)
section
variable {K : PySem.W.Frag} {H : Hp}
theorem no_non {t : String} (k : kitB "NoneType" t = some false) : NoK K t H .non := ⟨"NoneType", .base .non, k⟩
theorem no_str {t : String} {z : Str} (k : kitB "str" t = some false) : NoK K t H (.str z) := ⟨"str", .base (.str z), k⟩
theorem no_int {t : String} {n : Int} (k : kitB "int" t = some false) : NoK K t H (.int n) := ⟨"int", .base (.int n), k⟩
theorem no_bl {t : String} {n : Bool} (k : kitB "bool" t = some false) : NoK K t H (.bl n) := ⟨"bool", .base (.bl n), k⟩
theorem no_lst {t : String} {a : Addr} {vs : List V} (h : SqL K H a vs) (k : kitB "list" t = some false) : NoK K t H (.ref a) := ⟨"list", tyL h, k⟩
theorem no_tup {t : String} {a : Addr} {vs : List V} (h : H a = some (.tup vs)) (k : kitB "tuple" t = some false) : NoK K t H (.ref a) := ⟨"tuple", .base (.tup h), k⟩
theorem no_dct {t : String} {a : Addr} {kvs : List (Key × V)} (h : H a = some (.dK kvs)) (k : kitB "dict" t = some false) : NoK K t H (.ref a) := ⟨"dict", .base (.dK h), k⟩
theorem k_ni : kitB "NoneType" "int" = some false := by decide +kernel
theorem k_si : kitB "str" "int" = some false := by decide +kernel
theorem k_li : kitB "list" "int" = some false := by decide +kernel
theorem k_ti : kitB "tuple" "int" = some false := by decide +kernel
theorem k_di : kitB "dict" "int" = some false := by decide +kernel
theorem k_nl : kitB "NoneType" "list" = some false := by decide +kernel
theorem k_sl : kitB "str" "list" = some false := by decide +kernel
theorem k_tl : kitB "tuple" "list" = some false := by decide +kernel
theorem k_dl : kitB "dict" "list" = some false := by decide +kernel
theorem k_il : kitB "int" "list" = some false := by decide +kernel
theorem k_bl : kitB "bool" "list" = some false := by decide +kernel
theorem NotI.pl {p : Int → Prop} {v : V} (h : NotI K p H v) : Pl K H v := h.imp fun _ _ => trivial
end
/-- the asks of many things: each is refused -/
def AskAll (P : Program) (w : World) (K : PySem.W.Frag) (mg : Str → Option Value) (base : Heap) (D : Addr) (H : Hp) (R : Hp → V → Prop) (f : Addr) : Prop := ∀ H' v, Ex H H' → R H' v → Asks P w K mg base 5 f H' (spRef H' v D)
end Dt
namespace Dt
/-! For k10: what is known on paper. -/
theorem k_sq : decide (cA 1 1000000000000000000000000000000 999950884 % 2 = 1) = true :=
  decide_eq_true ((cA_square (l := 1000000000000000000000000000000) (n := 999950884) (r := 31622) (by decide) (by decide) ⟨by decide, by decide +kernel, by decide +kernel⟩).mpr (by decide +kernel))
theorem cA_one {n : Int} (h : 1 ≤ n) : cA 1 1 n = 1 := by
  have key : ∀ k : Nat, (upto k).countP (dv 1 1 n) = if k = 0 then 0 else 1 := by
    intro k
    induction k with
    | zero => rfl
    | succ k ih =>
      rw [upto_succ, List.countP_append, ih]
      by_cases hk : k = 0
      · subst hk
        simp [dv, inR]
      · rw [if_neg hk, if_neg (by omega)]
        have : dv 1 1 n (1 + (k : Int)) = false := by
          have h2 : decide ((1 : Int) + (k : Int) ≤ 1) = false := decide_eq_false (by omega)
          simp only [dv, inR, h2, Bool.and_false]
        simp [this]
  unfold cA
  rw [key, if_neg (by omega)]
theorem k_sq2 : decide (cA 2 1000000000000000000000000000000 999950884 % 2 = 1) = false := by
  have j := cA_join (f := 1) (m := 1) (l := 1000000000000000000000000000000) (n := 999950884) (by decide) (by decide)
  have o := cA_one (n := 999950884) (by decide)
  have s := of_decide_eq_true k_sq
  have e2 : (1 : Int) + 1 = 2 := by decide
  rw [e2] at j
  refine decide_eq_false ?_
  generalize cA 2 1000000000000000000000000000000 999950884 = x at j
  generalize cA 1 1000000000000000000000000000000 999950884 = y at j s
  generalize cA 1 1 999950884 = z at j o
  omega
theorem k_77 : decide (cA 7 7 7 % 2 = 1) = true := by decide +kernel
theorem k_78 : decide (cA 7 7 8 % 2 = 1) = false := by decide +kernel
/-- all numbers have turned: the divisors -/
theorem hits_upto {d : Int} (h1 : 1 ≤ d) : ∀ n : Nat, d ≤ n → hits (upto n) d = cA 1 n d := by
  have base : ∀ k : Nat, hits (upto k) d = (upto k).countP fun t => decide (d % t = 0) := fun k => rfl
  have up : ∀ j : Nat, hits (upto (d.toNat + j)) d = hits (upto d.toNat) d := by
    intro j
    induction j with
    | zero => rfl
    | succ j ih =>
      have hz : ¬ d % (1 + ((d.toNat + j : Nat) : Int)) = 0 := fun z => by
        have := le_of_goes (by omega) z
        omega
      rw [← Nat.add_assoc, upto_succ, hits_app, ih, hits_one, if_neg hz]
      rfl
  intro n hn
  have e : n = d.toNat + (n - d.toNat) := by omega
  rw [e, up, base]
  unfold cA
  refine List.countP_congr fun x hx => ?_
  have hx := mem_upto.mp hx
  have h2 : inR 1 ((d.toNat + (n - d.toNat) : Nat) : Int) x = true := by
    unfold inR
    rw [decide_eq_true (by omega), decide_eq_true (by omega)]
    rfl
  unfold dv
  rw [h2, Bool.and_true]
theorem opn_upto {d r : Int} {n : Nat} (h1 : 1 ≤ d) (hn : d ≤ n) (hr : IsRoot d r) : opn (upto n) d = true ↔ r * r = d := by
  unfold opn
  rw [decide_eq_true_iff, hits_upto h1 n hn]
  exact cA_square hn h1 hr
def sqs : List Int := (List.range 31).map fun i : Nat => (1 + (i : Int)) * (1 + (i : Int))
theorem sq_root (d : Int) (h : 0 ≤ d) : ∃ r, IsRoot d r := by
  obtain ⟨n, rfl⟩ := Int.eq_ofNat_of_zero_le h
  clear h
  induction n with
  | zero => exact ⟨0, by decide, by decide, by decide⟩
  | succ n ih =>
    obtain ⟨r, h0, h1, h2⟩ := ih
    by_cases z : (r + 1) * (r + 1) ≤ ((n + 1 : Nat) : Int)
    · refine ⟨r + 1, by omega, z, ?_⟩
      have e : (r + 1 + 1) * (r + 1 + 1) = (r + 1) * (r + 1) + (2 * r + 3) := by
        simp only [Int.add_mul, Int.mul_add]; omega
      omega
    · exact ⟨r, h0, by omega, by omega⟩
theorem opens_sq : opens (upto 1000) 1000 = sqs := by
  refine opens_eq (by decide +kernel) (by decide +kernel) fun d d1 d2 => ?_
  obtain ⟨r, hr⟩ := sq_root d (by omega)
  rw [opn_upto d1 d2 hr]
  obtain ⟨r0, r1, r2⟩ := hr
  have h31 : r ≤ 31 := by
    by_cases z : r ≤ 31
    · exact z
    · have := sq_mono (a := 32) (b := r) (by decide) (by omega)
      omega
  constructor
  · intro e
    have : 1 ≤ r := by
      by_cases z : 1 ≤ r
      · exact z
      · have : r = 0 := by omega
        subst this
        omega
    refine List.mem_map.mpr ⟨(r - 1).toNat, List.mem_range.mpr (by omega), ?_⟩
    have e2 : (1 : Int) + ((r - 1).toNat : Int) = r := by omega
    rw [e2]; exact e
  · intro m
    obtain ⟨i, hi, e⟩ := List.mem_map.mp m
    have u := (IsRoot.sq (r := 1 + (i : Int)) (by omega)).uniq (show IsRoot ((1 + (i : Int)) * (1 + (i : Int))) r by rw [e]; exact ⟨r0, r1, r2⟩)
    rw [← u]; exact e
theorem cnt_23 : cnt [2, 3] 1000000000000000000 = 500000000000000001 := by
  have h := cnt_mul (ks := [2, 3]) (L := 6) (by decide) 4 166666666666666666
  rw [show 166666666666666666 * 6 + 4 = 1000000000000000000 from by decide, show cnt [2, 3] 6 = 3 from by decide, show cnt [2, 3] 4 = 3 from by decide] at h
  exact h
theorem rnd_40 : rnd (upto 40) = 5342931457063200 := by decide +kernel
theorem kept_twelve {z : Int} (hz : 12 < z) : IsKept (upto 12 ++ List.replicate 28 z) (upto 12) :=
  (kept_by (ts := upto 12) (ks := upto 12) (by decide +kernel)).of_par fun x => by
    rw [List.count_append, List.count_replicate]
    split <;> omega
theorem kept_dup (ts : List Int) : IsKept (ts ++ ts) [] := ⟨by simp, fun x => by
  rw [List.count_append]
  simp only [List.not_mem_nil, false_iff]
  omega⟩
theorem kept_far {g : Int} (hg : 6 ≤ g) : IsKept ([g, 5] ++ [g, 3]) [3, 5] := ⟨by simp, fun x => by
  simp only [List.count_append, List.count_cons, List.count_nil, List.mem_cons, List.not_mem_nil, beq_iff_eq, or_false]
  repeat (first | omega | split)⟩
theorem opn_all {d : Int} : opn [1] d = true := by rw [opn_one]; simp
theorem opens_all (n : Nat) : opens [1] n = upto n := by
  unfold opens
  rw [List.filter_eq_self]
  intro x _
  exact opn_all
end Dt
namespace Dt
open PySem PySem.Spec PyProof.Rows L2 Evl
local macro_rules | `(tactic| walk_at "st0") => `(tactic| first
  | (with_reducible refine c_seq ?_) | (with_reducible refine c_asg ?_) | (with_reducible refine c_asgG ?_) | (with_reducible refine c_ret ?_) | (with_reducible refine c_drop ?_) | (with_reducible refine c_ifS ?_) | (with_reducible refine c_next ?_) | (with_reducible refine c_par ?_) | (with_reducible refine c_for ?_) | (with_reducible refine c_g ?_) | (with_reducible refine c_iL ?_) | (with_reducible refine c_iR1 ?_) | (with_reducible refine c_iR2 ?_) | (with_reducible refine c_iE ?_)
  | (with_reducible refine c_op ?_) | (with_reducible refine c_un ?_) | (with_reducible refine c_cb ?_) | (with_reducible refine c_call ?_) | (with_reducible refine c_nil ?_) | (with_reducible refine c_cons ?_)
  | (with_reducible refine c_c ?_) | ((with_reducible refine' c_var ?hv ?_); (case hv => exact rfl))
  | (with_reducible refine c_test ?_) | (with_reducible refine c_B ?_) | (with_reducible refine c_k ?_) | (with_reducible refine c_and ?_) | (with_reducible refine c_or ?_) | (with_reducible refine c_not ?_)
  | (with_reducible refine c_yes ?_) | (with_reducible refine c_andV ?_) | (with_reducible refine c_orV ?_) | (with_reducible refine c_notV ?_) | (with_reducible refine c_chain ?_)
  | (with_reducible refine c_lst ?_) | (with_reducible refine c_tup ?_) | (with_reducible refine c_sl ?_) | (with_reducible refine c_rev ?_) | (with_reducible refine c_bm ?_) | (with_reducible refine c_noP ?_) | (with_reducible refine c_part ?_) | (with_reducible refine c_ki ?_) | (with_reducible refine c_kpar ?_)
  | (with_reducible refine c_I0 ?_) | (with_reducible refine c_U ?_) | (with_reducible refine c_eqI ?_) | (with_reducible refine c_neI ?_) | (with_reducible refine c_eqB ?_) | (with_reducible refine c_neB ?_) | (with_reducible refine c_isB ?_) | (with_reducible refine c_notB ?_)
  | (with_reducible refine c_isiI ?_) | (with_reducible refine c_isiIb ?_) | (with_reducible refine c_isiB ?_)
  | ((with_reducible refine' w_t ?hb ?_); (case hb => exact rfl)) | ((with_reducible refine' w_f ?hb ?_); (case hb => exact rfl)))
local macro_rules | `(tactic| walk_at "st") => `(tactic| first | walk_at "st0" | (with_reducible refine c_if ?_))
local macro_rules | `(tactic| walk_at "goI") => `(tactic| ((repeat walk_at "st0"); (try dsimp only)))
local macro_rules | `(tactic| walk_at "go") => `(tactic| ((repeat walk_at "st"); (try dsimp only)))
local macro_rules | `(tactic| walk_at "go1") => `(tactic| ((repeat (first | (with_reducible refine c_seq ?_) | (with_reducible refine c_asg ?_))); (try dsimp only)))
/-! ### the text -/
def topS (i : Nat) : Stmt := PySem.Challenge.pw_doorturns_k10_whole_known.main.body.getD i (.Pass ⟨0, 0, 0, 0⟩)
local macro_rules | `(tactic| walk_at "gm") => `(tactic| ((repeat (first | walk_at "st" | (with_reducible refine c_meth2 ?_) | (with_reducible refine c_mk ?_) | (with_reducible refine c_mk0 ?_) | (with_reducible refine c_fld ?_))); (try dsimp only)))
local macro_rules | `(tactic| walk_at "gx") => `(tactic| ((repeat (first | walk_at "st" | (with_reducible refine c_callS ?_))); (try dsimp only)))
abbrev s_is_number : Stmt := topS 11
section
variable {P : Program} {w : World} {K : PySem.W.Frag} {mg : Str → Option Value} {base : Heap}
/-! is_number, of an int -/
def spNum : Sp := fun vs H Q _ => ∃ n : Int, vs = [.int n] ∧ Q (.bl (decide (0 < n))) H
theorem ok_is_number (F : Df K mg "is_number" s_is_number ["thing"]) (B : Blt mg) : Cal P w K mg base CX0 1 "is_number" spNum := by
  have sc : FnScope ["thing"] ["thing"] (defScope s_is_number) := ⟨rfl, rfl, rfl, by decide +kernel, rfl, by decide +kernel, by decide +kernel⟩
  refine F.ok sc (fun vs H Q E h => ?_) (fun f cdv A outer s H vs Q E hr h => ?_)
  · obtain ⟨n, rfl, _⟩ := h
    rfl
  · obtain ⟨n, rfl, q⟩ := h
    refine ⟨_, (pss_one (ps_ret (pe_and (pe_callB call_isi (by rfl) B.isinstance_ boot_isinstance (pa_cons (pv 0) (pa_cons (pe_bltn (v := .ty "int") (by rfl) B.int_ boot_int rfl) pa_nil))) (pe_and (pe_not (pe_callB call_isi (by rfl) B.isinstance_ boot_isinstance (pa_cons (pv 0) (pa_cons (pe_bltn (v := .ty "bool") (by rfl) B.bool_ boot_bool rfl) pa_nil)))) (pe_one (pe_cmpR op_gt (pv 0) pe_int (nomark _))))))), ?_⟩
    walk_at "go"
    exact q
end
abbrev s_asked_turners : Stmt := topS 12
section
variable {P : Program} {w : World} {K : PySem.W.Frag} {mg : Str → Option Value} {base : Heap}
/-! asked_turners, of turners -/
def spAskT (K : PySem.W.Frag) : Sp := fun vs H Q _ => ∃ (a : Addr) (ts : List Int), vs = [.ref a] ∧ SqL K H a (ts.map V.int) ∧ Good ts ∧ RetV .non H Q
theorem ok_asked_turners (F : Df K mg "asked_turners" s_asked_turners ["turners"]) (B : Blt mg) (g_MOST : ∃ t, mg "MOST" = some (.int 40 t)) (c_is_number : Cal P w K mg base CX0 1 "is_number" spNum) : Cal P w K mg base CX0 2 "asked_turners" (spAskT K) := by
  obtain ⟨tm, g_MOST⟩ := g_MOST
  have sc : FnScope ["turners", "one"] ["turners"] (defScope s_asked_turners) := ⟨rfl, rfl, rfl, by decide +kernel, rfl, by decide +kernel, by decide +kernel⟩
  refine F.ok sc (fun vs H Q E h => ?_) (fun f cdv A outer s H vs Q E hr h => ?_)
  · obtain ⟨a, ts, rfl, _⟩ := h
    rfl
  · obtain ⟨a, ts, rfl, hS, hG, q⟩ := h
    refine ⟨_, (pss_one (ps_if (PW.pt (pw_or (pt_not (pt_val (pe_callB call_isi (by rfl) B.isinstance_ boot_isinstance (pa_cons (pv 0) (pa_cons (pe_bltn (v := .ty "list") (by rfl) B.list_ boot_list rfl) pa_nil))))) (pw_or (pt_cmpR op_gt (pe_callB call_len_s (by rfl) B.len_ boot_len (pa_cons (pv 0) pa_nil)) (pe_glob (v := .int 40) (by rfl) g_MOST ⟨_, rfl⟩) (nomark _)) (pw_or1 (pt_not (pt_val (pe_callB (cr_all rfl) (by rfl) B.all_ boot_all (pa_cons (pe_lc (own := [("one", 1)]) (g := (gName 1)) (by rfl) sc.nd (pi_list (pv 0)) (blkOk_by (own := [("one", 1)]) (N := ["turners", "one"]) (sc := defScope s_asked_turners) (by decide +kernel)) (fun _ _ _ _ _ => (pg_name (i := 1) sc.nd rfl (by first | exact Or.inl rfl | exact Or.inr rfl))) (fun _ _ _ _ _ => pts_nil) (fun _ _ _ _ _ => (pe_d c_is_number hr (by decide) (by rfl) (pa_cons (pv 1) pa_nil)))) pa_nil))))))))
      (pss_one ps_never) pss_nil)), ?_⟩
    walk_at "go"
    refine c_isiL hS ?_
    walk_at "go"
    refine c_len hS ?_
    walk_at "go"
    refine w_f (decide_eq_false (by rw [List.length_map]; have := hG.len; omega)) ?_
    walk_at "go"
    refine el_lcL (K := K) (σ := [some (.ref a), none]) (fun _ => true) (fun i => V.bl (decide (0 < ts.getD i 0))) (ev_var rfl) hS (by rw [List.length_map]; have := hG.len; omega) (fun x => rfl) (fun i x H1 e hx => ?_) (fun i x H1 e hx _ => ?_) H (Ex.refl H) _ (fun p H2 hp e2 h2 => ?_)
    · exact fun H2 _ QB k => k H2 (Ex.refl H2)
    · obtain ⟨rfl, hi, _⟩ := getD_of hx
      intro H2 e2 Q2 k
      walk_at "go"
      exact ⟨_, rfl, k H2 (Ex.refl H2)⟩
    · rw [List.length_map, given_all ts fun n => decide (0 < n)] at h2
      walk_at "go"
      refine ⟨p, _, rfl, .inl (.inl h2), ?_⟩
      have e : (ts.map fun n => decide (0 < n)).all id = true := by
        rw [List.all_map, List.all_eq_true]
        intro t ht
        have := hG.pos t ht
        simp; omega
      rw [e]
      walk_at "go"
      exact q H2 e2
end
abbrev s_asked_door : Stmt := topS 13
section
variable {P : Program} {w : World} {K : PySem.W.Frag} {mg : Str → Option Value} {base : Heap}
/-! asked_door -/
def spAskD : Sp := fun vs H Q _ => ∃ n : Int, vs = [.int n] ∧ 1 ≤ n ∧ Q .non H
theorem ok_asked_door (F : Df K mg "asked_door" s_asked_door ["door"]) (c_is_number : Cal P w K mg base CX0 1 "is_number" spNum) : Cal P w K mg base CX0 2 "asked_door" spAskD := by
  have sc : FnScope ["door"] ["door"] (defScope s_asked_door) := ⟨rfl, rfl, rfl, by decide +kernel, rfl, by decide +kernel, by decide +kernel⟩
  refine F.ok sc (fun vs H Q E h => ?_) (fun f cdv A outer s H vs Q E hr h => ?_)
  · obtain ⟨n, rfl, _⟩ := h
    rfl
  · obtain ⟨n, rfl, hn, q⟩ := h
    refine ⟨_, (pss_one (ps_if (pt_not (pt_val (pe_d c_is_number hr (by decide) (by rfl) (pa_cons (pv 0) pa_nil))))
      (pss_one ps_never) pss_nil)), ?_⟩
    walk_at "go"
    refine ⟨n, rfl, ?_⟩
    walk_at "go"
    refine w_f (by rw [decide_eq_true (by omega)]; rfl) ?_
    walk_at "go"
    exact q
end
abbrev s_asked_small : Stmt := topS 14
section
variable {P : Program} {w : World} {K : PySem.W.Frag} {mg : Str → Option Value} {base : Heap}
/-! asked_small -/
def spAskS : Sp := fun vs H Q _ => ∃ n : Int, vs = [.int n] ∧ 0 ≤ n ∧ n ≤ 1000 ∧ Q .non H
theorem ok_asked_small (F : Df K mg "asked_small" s_asked_small ["many"]) (B : Blt mg) (g_SMALL : ∃ t, mg "SMALL" = some (.int 1000 t)) : Cal P w K mg base CX0 1 "asked_small" spAskS := by
  obtain ⟨tm, g_SMALL⟩ := g_SMALL
  have sc : FnScope ["many"] ["many"] (defScope s_asked_small) := ⟨rfl, rfl, rfl, by decide +kernel, rfl, by decide +kernel, by decide +kernel⟩
  refine F.ok sc (fun vs H Q E h => ?_) (fun f cdv A outer s H vs Q E hr h => ?_)
  · obtain ⟨n, rfl, _⟩ := h
    rfl
  · obtain ⟨n, rfl, h0, h1, q⟩ := h
    refine ⟨_, (pss_one (ps_if (PW.pt (pw_or (pt_not (pt_val (pe_callB call_isi (by rfl) B.isinstance_ boot_isinstance (pa_cons (pv 0) (pa_cons (pe_bltn (v := .ty "int") (by rfl) B.int_ boot_int rfl) pa_nil))))) (pw_or (pt_val (pe_callB call_isi (by rfl) B.isinstance_ boot_isinstance (pa_cons (pv 0) (pa_cons (pe_bltn (v := .ty "bool") (by rfl) B.bool_ boot_bool rfl) pa_nil)))) (pw_or1 (pt_not (pt_chain op_le op_le pe_int (pv 0) (pe_glob (v := .int 1000) (by rfl) g_SMALL ⟨_, rfl⟩)))))))
      (pss_one ps_never) pss_nil)), ?_⟩
    walk_at "go"
    refine w_t (decide_eq_true h0) ?_
    walk_at "go"
    refine w_f (by rw [decide_eq_true h1]; rfl) ?_
    walk_at "go"
    exact q
end
abbrev s_stands_open : Stmt := topS 15
section
variable {P : Program} {w : World} {K : PySem.W.Frag} {mg : Str → Option Value} {base : Heap}
/-! stands_open -/
def spStands (K : PySem.W.Frag) : Sp := fun vs H Q _ => ∃ (a : Addr) (ts : List Int) (d : Int), vs = [.ref a, .int d] ∧ SqL K H a (ts.map V.int) ∧ Good ts ∧ RetV (.bl (opn ts d)) H Q
theorem ok_stands_open (F : Df K mg "stands_open" s_stands_open ["turners", "door"]) (B : Blt mg) : Cal P w K mg base CX0 1 "stands_open" (spStands K) := by
  have sc : FnScope ["turners", "door", "one"] ["turners", "door"] (defScope s_stands_open) := ⟨rfl, rfl, rfl, by decide +kernel, rfl, by decide +kernel, by decide +kernel⟩
  refine F.ok sc (fun vs H Q E h => ?_) (fun f cdv A outer s H vs Q E hr h => ?_)
  · obtain ⟨a, ts, d, rfl, _⟩ := h
    rfl
  · obtain ⟨a, ts, d, rfl, hS, hG, q⟩ := h
    refine ⟨_, (pss_one (ps_ret (pe_cmpR op_eq (pe_op op_mod (pe_callB call_len_s (by rfl) B.len_ boot_len (pa_cons (pe_lc (own := [("one", 2)]) (g := (gName 2)) (by rfl) sc.nd (pi_list (pv 0)) (blkOk_by (own := [("one", 2)]) (N := ["turners", "door", "one"]) (sc := defScope s_stands_open) (by decide +kernel)) (fun _ _ _ _ _ => (pg_name (i := 2) sc.nd rfl (by first | exact Or.inl rfl | exact Or.inr rfl))) (fun _ _ _ _ _ => (pts_one (pt_cmpR op_eq (pe_op op_mod (pv 1) (pv 2)) pe_int (nomark _)))) (fun _ _ _ _ _ => (pv 2))) pa_nil)) pe_int) pe_int (nomark _)))), ?_⟩
    walk_at "go"
    refine el_lcL (K := K) (σ := [some (.ref a), some (.int d), none]) (fun i => decide (d % ts.getD i 0 = 0)) (fun i => V.int (ts.getD i 0)) (ev_var rfl) hS (by rw [List.length_map]; have := hG.len; omega) (fun x => rfl) (fun i x H1 e hx => ?_) (fun i x H1 e hx _ => ?_) H (Ex.refl H) _ (fun p H2 hp e2 h2 => ?_)
    · obtain ⟨rfl, hi, _⟩ := getD_of hx
      intro H2 e2 Q2 k
      walk_at "go"
      refine c_I (by have := hG.pos _ (getD_mem hi); omega) ?_
      walk_at "go"
      exact k H2 (Ex.refl H2)
    · obtain ⟨rfl, hi, _⟩ := getD_of hx
      exact ev_var rfl
    · rw [List.length_map, given_filter ts fun n => decide (d % n = 0)] at h2
      walk_at "go"
      refine c_len (.inl (.inl h2)) ?_
      walk_at "go"
      refine c_I (by decide) ?_
      walk_at "go"
      rw [List.length_map, opn_len]
      exact q H2 e2
end
abbrev s_is_open : Stmt := topS 16
section
variable {P : Program} {w : World} {K : PySem.W.Frag} {mg : Str → Option Value} {base : Heap}
/-! is_open -/
def spIsOpen (K : PySem.W.Frag) : Sp := fun vs H Q _ => ∃ (a : Addr) (ts : List Int) (d : Int), vs = [.ref a, .int d] ∧ SqL K H a (ts.map V.int) ∧ Good ts ∧ 1 ≤ d ∧ RetV (.bl (opn ts d)) H Q
theorem ok_is_open (F : Df K mg "is_open" s_is_open ["turners", "door"]) (c_asked_turners : Cal P w K mg base CX0 2 "asked_turners" (spAskT K)) (c_asked_door : Cal P w K mg base CX0 2 "asked_door" spAskD) (c_stands_open : Cal P w K mg base CX0 1 "stands_open" (spStands K)) : Cal P w K mg base CX0 3 "is_open" (spIsOpen K) := by
  have sc : FnScope ["turners", "door"] ["turners", "door"] (defScope s_is_open) := ⟨rfl, rfl, rfl, by decide +kernel, rfl, by decide +kernel, by decide +kernel⟩
  refine F.ok sc (fun vs H Q E h => ?_) (fun f cdv A outer s H vs Q E hr h => ?_)
  · obtain ⟨a, ts, d, rfl, _⟩ := h
    rfl
  · obtain ⟨a, ts, d, rfl, hS, hG, hd, q⟩ := h
    refine ⟨_, (pss_cons (ps_expr (pe_d c_asked_turners hr (by decide) (by rfl) (pa_cons (pv 0) pa_nil)))
      (pss_cons (ps_expr (pe_d c_asked_door hr (by decide) (by rfl) (pa_cons (pv 1) pa_nil)))
      (pss_one (ps_ret (pe_d c_stands_open hr (by decide) (by rfl) (pa_cons (pv 0) (pa_cons (pv 1) pa_nil))))))), ?_⟩
    walk_at "go"
    refine ⟨a, ts, rfl, hS, hG, fun H1 e1 => ?_⟩
    walk_at "go"
    refine ⟨d, rfl, hd, ?_⟩
    walk_at "go"
    exact ⟨a, ts, d, rfl, ex_l e1 hS, hG, fun H2 e2 => q H2 (e1.trans e2)⟩
end
abbrev s_open_doors : Stmt := topS 17
section
variable {P : Program} {w : World} {K : PySem.W.Frag} {mg : Str → Option Value} {base : Heap}
/-! open_doors -/
def spOpens (K : PySem.W.Frag) : Sp := fun vs H Q _ => ∃ (a : Addr) (ts : List Int) (n : Nat), vs = [.ref a, .int n] ∧ SqL K H a (ts.map V.int) ∧ Good ts ∧ n ≤ 1000 ∧ RetL ((opens ts n).map V.int) H Q
theorem given_opens (p : Int → Bool) (n : Nat) : given n (fun i => p (1 + (i : Int))) (fun i => V.int (1 + (i : Int))) = ((upto n).filter p).map V.int := by
  unfold given upto
  rw [List.filter_map, List.map_map]
  rfl
theorem ok_open_doors (F : Df K mg "open_doors" s_open_doors ["turners", "many"]) (B : Blt mg) (c_asked_turners : Cal P w K mg base CX0 2 "asked_turners" (spAskT K)) (c_asked_small : Cal P w K mg base CX0 1 "asked_small" spAskS) (c_stands_open : Cal P w K mg base CX0 1 "stands_open" (spStands K)) : Cal P w K mg base CX0 3 "open_doors" (spOpens K) := by
  have sc : FnScope ["turners", "many", "door"] ["turners", "many"] (defScope s_open_doors) := ⟨rfl, rfl, rfl, by decide +kernel, rfl, by decide +kernel, by decide +kernel⟩
  refine F.ok sc (fun vs H Q E h => ?_) (fun f cdv A outer s H vs Q E hr h => ?_)
  · obtain ⟨a, ts, d, rfl, _⟩ := h
    rfl
  · obtain ⟨a, ts, n, rfl, hS, hG, hn, q⟩ := h
    refine ⟨_, (pss_cons (ps_expr (pe_d c_asked_turners hr (by decide) (by rfl) (pa_cons (pv 0) pa_nil)))
      (pss_cons (ps_expr (pe_d c_asked_small hr (by decide) (by rfl) (pa_cons (pv 1) pa_nil)))
      (pss_one (ps_ret (pe_lc (own := [("door", 2)]) (g := (gName 2)) (by rfl) sc.nd (pi_range2 (by rfl) B.range_ (pa_cons pe_int (pa_cons (pe_op op_add (pv 1) pe_int) pa_nil))) (blkOk_by (own := [("door", 2)]) (N := ["turners", "many", "door"]) (sc := defScope s_open_doors) (by decide +kernel)) (fun _ _ _ _ _ => (pg_name (i := 2) sc.nd rfl (by first | exact Or.inl rfl | exact Or.inr rfl))) (fun _ _ _ _ _ => (pts_one (pt_val (pe_d c_stands_open hr (by decide) (by rfl) (pa_cons (pv 0) (pa_cons (pv 2) pa_nil)))))) (fun _ _ _ _ _ => (pv 2))))))), ?_⟩
    walk_at "go"
    refine ⟨a, ts, rfl, hS, hG, fun H1 e1 => ?_⟩
    walk_at "go"
    refine ⟨n, rfl, by omega, by omega, ?_⟩
    walk_at "go"
    refine el_lcR2 (σ := [some (.ref a), some (.int n), none]) (lo := 1) (hi := (n : Int) + 1) (fun i => opn ts (1 + (i : Int))) (fun i => V.int (1 + (i : Int))) (fun H2 e2 Q2 k => ?_) (by omega) (by omega) (fun x => rfl) (fun i H2 e2 hi => ?_) (fun i H2 e2 hi _ => ev_var rfl) H1 (Ex.refl H1) _ (fun p H2 hp e2 h2 => ?_)
    · walk_at "go"
      exact k H2 (Ex.refl H2)
    · intro H3 e3 Q3 k
      walk_at "go"
      refine ⟨a, ts, _, rfl, ex_l ((e1.trans e2).trans e3) hS, hG, fun H4 e4 => ?_⟩
      walk_at "go"
      exact k H4 e4
    · rw [show ((n : Int) + 1 - 1).toNat = n by omega, given_opens (fun d => opn ts d)] at h2
      exact q p H2 (fresh_back e1 hp) (e1.trans e2) h2
end
abbrev s_left_over : Stmt := topS 18
section
variable {P : Program} {w : World} {K : PySem.W.Frag} {mg : Str → Option Value} {base : Heap}
/-! left_over -/
def spLeft (K : PySem.W.Frag) : Sp := fun vs H Q _ => ∃ (a : Addr) (ts : List Int), vs = [.ref a] ∧ SqL K H a (ts.map V.int) ∧ ts.length ≤ 1000 ∧ ∀ ks, IsKept ts ks → RetL (ks.map V.int) H Q
theorem ok_left_over (F : Df K mg "left_over" s_left_over ["turners"]) (B : Blt mg) : Cal P w K mg base CX0 1 "left_over" (spLeft K) := by
  have sc : FnScope ["turners", "found", "one"] ["turners"] (defScope s_left_over) := ⟨rfl, rfl, rfl, by decide +kernel, rfl, by decide +kernel, by decide +kernel⟩
  refine F.ok sc (fun vs H Q E h => ?_) (fun f cdv A outer s H vs Q E hr h => ?_)
  · obtain ⟨a, ts, rfl, _⟩ := h
    rfl
  · obtain ⟨a, ts, rfl, hS, hl, q⟩ := h
    refine ⟨_, (pss_cons (ps_set (i := 1) sc.nd rfl (by first | exact Or.inl rfl | exact Or.inr rfl) (pe_lst pa_nil))
      (pss_cons (ps_for PassesOwn.never rfl (pi_list (pe_callB cr_sortedI (by rfl) B.sorted_ boot_sorted (pa_cons (pv 0) pa_nil))) (pg_name (i := 2) sc.nd rfl (by first | exact Or.inl rfl | exact Or.inr rfl))
      (pss_one (ps_if (PW.pt (pw_and (pt_cmpR op_eq (pe_op op_mod (pe_bm PySem.F.plainAttrs_list PySem.F.slot_list_count PySem.F.type_list_count mt_lcount (pv 0) (pa_cons (pv 2) pa_nil)) pe_int) pe_int (nomark _)) (pw_and1 (pt_cmpR op_notIn_seq (pv 2) (pv 1) (by rfl)))))
      (pss_one (ps_expr (pe_bm PySem.F.plainAttrs_list PySem.F.slot_list_append PySem.F.type_list_append mt_append (pv 1) (pa_cons (pv 2) pa_nil)))) pss_nil)))
      (pss_one (ps_ret (pv 1))))), ?_⟩
    walk_at "go"
    refine ⟨Nat.zero_le _, fun fo nfo => ?_⟩
    have e1 : Ex H (upd H fo (.lst [])) := Ex.new nfo
    walk_at "go"
    refine ⟨a, ts, rfl, ex_l e1 hS, fun so p perm rise np => ?_⟩
    have e2 : Ex (upd H fo (.lst [])) (upd (upd H fo (.lst [])) p (.lst (so.map V.int))) := Ex.new np
    have npf : p ≠ fo := fun z => by rw [z, upd_same] at np; cases np
    have np0 : H p = none := fresh_back e1 np
    refine ⟨p, rfl, ⟨_, .inl (.inl upd_same)⟩, f_list (xs := so.map V.int) (fun i σ H' => ∃ y fs, σ = [some (.ref a), some (.ref fo), y] ∧ Ex H H' ∧ H' p = some (.lst (so.map V.int)) ∧ H' fo = some (.lst (fs.map V.int)) ∧ LoInv ts (so.take i) fs ∧ fs.length ≤ i)
      ⟨none, [], rfl, e1.trans e2, upd_same, e2 _ _ upd_same, LoInv.nil ts, Nat.le_refl _⟩ (fun i σ H' _ h => by obtain ⟨_, _, _, _, h, _⟩ := h; exact .inl (.inl h)) (fun i x σ H' hx h => ?_) (fun σ H' h => ?_)⟩
    · obtain ⟨y, fs, rfl, e3, hp, hf, inv, hfl⟩ := h
      obtain ⟨rfl, hi, hg⟩ := getD_of hx
      have hsl : so.length = ts.length := perm.length_eq
      have tk : so.take (i + 1) = so.take i ++ [so.getD i 0] := by rw [List.take_add_one, hg]; rfl
      have below : ∀ z ∈ so.take i, z ≤ so.getD i 0 := by
        intro z hz
        obtain ⟨j, hj, e⟩ := List.getElem_of_mem hz
        rw [List.length_take] at hj
        rw [List.getElem_take] at e
        have := List.pairwise_iff_getElem.mp rise j i (by omega) hi (by omega)
        rw [List.getD_eq_getElem?_getD, List.getElem?_eq_getElem hi]
        show z ≤ so[i]
        omega
      generalize so.getD i 0 = one at hg tk below
      walk_at "go"
      refine ⟨tyLl (ex_l e3 hS), ?_⟩
      walk_at "go"
      refine c_cnt (ex_l e3 hS) ?_
      walk_at "go"
      refine c_I (by decide) ?_
      walk_at "go"
      refine w_2 (fun hb => ?_) (fun hb => ?_)
      · have hodd : ts.count one % 2 = 1 := by have := of_decide_eq_true hb; omega
        walk_at "go"
        refine c_notIn (.inl (.inl hf)) ?_
        walk_at "go"
        refine w_2 (fun hb2 => ?_) (fun hb2 => ?_)
        · have hn : one ∉ fs := by simpa using hb2
          walk_at "go"
          refine ⟨tyLl (.inl (.inl hf)), ?_⟩
          walk_at "go"
          refine c_app hf (by rw [List.length_map]; omega) ?_
          refine ⟨_, fs ++ [one], rfl, e3.mut nfo, ?_, ?_, ?_, ?_⟩
          · rw [upd_ne npf]; exact hp
          · rw [upd_same, List.map_append]; rfl
          · rw [tk]; exact inv.put below hodd hn
          · rw [List.length_append]; show fs.length + 1 ≤ i + 1; omega
        · have hn : one ∈ fs := by simpa using hb2
          walk_at "go"
          exact ⟨_, fs, rfl, e3, hp, hf, by rw [tk]; exact inv.skip fun z => z.2 hn, by omega⟩
      · have hev : ¬ ts.count one % 2 = 1 := by have := of_decide_eq_false hb; omega
        walk_at "go"
        exact ⟨_, fs, rfl, e3, hp, hf, by rw [tk]; exact inv.skip fun z => hev z.1, by omega⟩
    · obtain ⟨y, fs, rfl, e3, hp, hf, inv, hfl⟩ := h
      rw [List.length_map, List.take_length] at inv
      walk_at "go"
      exact q fs (inv.kept perm) fo H' nfo e3 hf
end
abbrev s_kept : Stmt := topS 19
section
variable {P : Program} {w : World} {K : PySem.W.Frag} {mg : Str → Option Value} {base : Heap}
/-! kept -/
def spKept (K : PySem.W.Frag) : Sp := fun vs H Q _ => ∃ (a : Addr) (ts : List Int), vs = [.ref a] ∧ SqL K H a (ts.map V.int) ∧ Good ts ∧ ∀ ks, IsKept ts ks → RetL (ks.map V.int) H Q
theorem ok_kept (F : Df K mg "kept" s_kept ["turners"]) (c_asked_turners : Cal P w K mg base CX0 2 "asked_turners" (spAskT K)) (c_left_over : Cal P w K mg base CX0 1 "left_over" (spLeft K)) : Cal P w K mg base CX0 3 "kept" (spKept K) := by
  have sc : FnScope ["turners"] ["turners"] (defScope s_kept) := ⟨rfl, rfl, rfl, by decide +kernel, rfl, by decide +kernel, by decide +kernel⟩
  refine F.ok sc (fun vs H Q E h => ?_) (fun f cdv A outer s H vs Q E hr h => ?_)
  · obtain ⟨a, ts, rfl, _⟩ := h
    rfl
  · obtain ⟨a, ts, rfl, hS, hG, q⟩ := h
    refine ⟨_, (pss_cons (ps_expr (pe_d c_asked_turners hr (by decide) (by rfl) (pa_cons (pv 0) pa_nil)))
      (pss_one (ps_ret (pe_d c_left_over hr (by decide) (by rfl) (pa_cons (pv 0) pa_nil))))), ?_⟩
    walk_at "go"
    refine ⟨a, ts, rfl, hS, hG, fun H1 e1 => ?_⟩
    walk_at "go"
    exact ⟨a, ts, rfl, ex_l e1 hS, by have := hG.len; omega, fun ks hk p H2 np e2 hp => q ks hk p H2 (fresh_back e1 np) (e1.trans e2) hp⟩
end
abbrev s_asked_count : Stmt := topS 25
section
variable {P : Program} {w : World} {K : PySem.W.Frag} {mg : Str → Option Value} {base : Heap}
/-! asked_count -/
def spAskC : Sp := fun vs H Q _ => ∃ n : Int, vs = [.int n] ∧ 0 ≤ n ∧ Q .non H
theorem ok_asked_count (F : Df K mg "asked_count" s_asked_count ["many"]) (B : Blt mg) : Cal P w K mg base CX0 1 "asked_count" spAskC := by
  have sc : FnScope ["many"] ["many"] (defScope s_asked_count) := ⟨rfl, rfl, rfl, by decide +kernel, rfl, by decide +kernel, by decide +kernel⟩
  refine F.ok sc (fun vs H Q E h => ?_) (fun f cdv A outer s H vs Q E hr h => ?_)
  · obtain ⟨n, rfl, _⟩ := h
    rfl
  · obtain ⟨n, rfl, h0, q⟩ := h
    refine ⟨_, (pss_one (ps_if (PW.pt (pw_or (pt_not (pt_val (pe_callB call_isi (by rfl) B.isinstance_ boot_isinstance (pa_cons (pv 0) (pa_cons (pe_bltn (v := .ty "int") (by rfl) B.int_ boot_int rfl) pa_nil))))) (pw_or (pt_val (pe_callB call_isi (by rfl) B.isinstance_ boot_isinstance (pa_cons (pv 0) (pa_cons (pe_bltn (v := .ty "bool") (by rfl) B.bool_ boot_bool rfl) pa_nil)))) (pw_or1 (pt_cmpR op_lt (pv 0) pe_int (nomark _))))))
      (pss_one ps_never) pss_nil)), ?_⟩
    walk_at "go"
    refine w_f (decide_eq_false (by omega)) ?_
    walk_at "go"
    exact q
end
abbrev s_common : Stmt := topS 23
abbrev s_both : Stmt := topS 24
section
variable {P : Program} {w : World} {K : PySem.W.Frag} {mg : Str → Option Value} {base : Heap}
/-! common, both -/
def spCommon : Sp := fun vs H Q _ => ∃ a b : Int, vs = [.int a, .int b] ∧ 0 < a ∧ 0 ≤ b ∧ Q (.int (Int.gcd a b : Nat)) H
theorem ok_common (F : Df K mg "common" s_common ["one", "other"]) : Cal P w K mg base CX0 1 "common" spCommon := by
  have sc : FnScope ["one", "other"] ["one", "other"] (defScope s_common) := ⟨rfl, rfl, rfl, by decide +kernel, rfl, by decide +kernel, by decide +kernel⟩
  refine F.ok sc (fun vs H Q E h => ?_) (fun f cdv A outer s H vs Q E hr h => ?_)
  · obtain ⟨a, b, rfl, _⟩ := h
    rfl
  · obtain ⟨a, b, rfl, ha, hb, q⟩ := h
    refine ⟨_, (pss_cons (ps_while PassesOwn.never (pt_cmpR op_gt (pv 1) pe_int (nomark _))
      (pss_one (ps_par (by rfl) sc.nd (i := 0) (j := 1) rfl rfl (by decide) rfl rfl (pa_cons (pv 1) (pa_cons (pe_op op_mod (pv 0) (pv 1)) pa_nil)) (by rfl))))
      (pss_one (ps_ret (pv 0)))), ?_⟩
    refine c_seq ?_
    refine ⟨fun m σ H' => ∃ x y : Int, σ = [some (.int x), some (.int y)] ∧ H' = H ∧ 0 < x ∧ 0 ≤ y ∧ m = y.toNat ∧ Int.gcd x y = Int.gcd a b, ⟨b.toNat, a, b, rfl, rfl, ha, hb, rfl, rfl⟩, fun m σ H' hW => ?_⟩
    obtain ⟨x, y, rfl, rfl, hx, hy, rfl, hg⟩ := hW
    walk_at "go"
    refine w_2 (fun hb => ?_) (fun hb => ?_)
    · have y0 : 0 < y := of_decide_eq_true hb
      refine n_self ?_
      walk_at "go"
      refine c_I (by omega) ?_
      walk_at "go"
      have r0 := Int.emod_nonneg x (show y ≠ 0 by omega)
      have r1 := Int.emod_lt_of_pos x y0
      exact ⟨(x % y).toNat, by omega, y, x % y, rfl, rfl, y0, r0, rfl, (gcd_step (by omega) y0).trans hg⟩
    · have y0 : ¬ 0 < y := of_decide_eq_false hb
      have e : y = 0 := by omega
      subst e
      walk_at "go"
      rw [← hg, Int.gcd_zero_right] at q
      have e : ((x.natAbs : Nat) : Int) = x := by omega
      rw [e] at q
      exact q
def spBoth : Sp := fun vs H Q _ => ∃ a b : Int, vs = [.int a, .int b] ∧ 0 < a ∧ 0 < b ∧ a.natAbs < 2 ^ wid ∧ b.natAbs < 2 ^ far ∧ Q (.int (lcmI a b)) H
theorem ok_both (F : Df K mg "both" s_both ["one", "other"]) (c_common : Cal P w K mg base CX0 1 "common" spCommon) : Cal P w K mg base CX0 2 "both" spBoth := by
  have sc : FnScope ["one", "other"] ["one", "other"] (defScope s_both) := ⟨rfl, rfl, rfl, by decide +kernel, rfl, by decide +kernel, by decide +kernel⟩
  refine F.ok sc (fun vs H Q E h => ?_) (fun f cdv A outer s H vs Q E hr h => ?_)
  · obtain ⟨a, b, rfl, _⟩ := h
    rfl
  · obtain ⟨a, b, rfl, ha, hb, la, lb, q⟩ := h
    refine ⟨_, (pss_one (ps_ret (pe_op op_mulB (pe_op op_fdivW (pv 0) (pe_d c_common hr (by decide) (by rfl) (pa_cons (pv 0) (pa_cons (pv 1) pa_nil)))) (pv 1)))), ?_⟩
    walk_at "go"
    refine ⟨a, b, rfl, ha, by omega, ?_⟩
    have g0 := gcd_pos (b := b) ha
    have g1 := gcd_le_left (b := b) ha
    refine c_I (wide_div g0 (b := wid) (by omega) (by decide) (by decide)) ?_
    walk_at "go"
    refine c_I (mulOk (num_div la) lb (by decide)) ?_
    rw [lcm_prog ha hb]
    exact q
end
abbrev s_round_of : Stmt := topS 27
section
variable {P : Program} {w : World} {K : PySem.W.Frag} {mg : Str → Option Value} {base : Heap}
/-! round_of -/
/-- the numbers on the way stay small enough -/
def RndOk (ks : List Int) : Prop := ∀ i k, ks[i]? = some k → (rnd (ks.take i)).natAbs < 2 ^ wid ∧ k.natAbs < 2 ^ far
theorem rndOk_of {ks : List Int} {B : Nat} (h : ∀ k ∈ ks, 0 < k ∧ k.natAbs < 2 ^ B) (hl : ks.length * B + 1 ≤ wid) : RndOk ks := fun i k e => by
  have hi := (List.getElem?_eq_some_iff.mp e).1
  have hB : i * B ≤ ks.length * B := Nat.mul_le_mul_right _ (by omega)
  have hB2 : 1 * B ≤ ks.length * B := Nat.mul_le_mul_right _ (by omega)
  have hw : wid ≤ far := by decide
  exact ⟨num_le (rnd_lt h i).1 (by omega), num_le (h k (List.mem_of_getElem? e)).2 (by omega)⟩
def spRound (K : PySem.W.Frag) : Sp := fun vs H Q _ => ∃ (a : Addr) (ts : List Int), vs = [.ref a] ∧ SqL K H a (ts.map V.int) ∧ Good ts ∧ ∀ ks, IsKept ts ks → RndOk ks ∧ RetV (.int (rnd ks)) H Q
theorem ok_round_of (F : Df K mg "round_of" s_round_of ["turners"]) (c_asked_turners : Cal P w K mg base CX0 2 "asked_turners" (spAskT K)) (c_left_over : Cal P w K mg base CX0 1 "left_over" (spLeft K)) (c_both : Cal P w K mg base CX0 2 "both" spBoth) : Cal P w K mg base CX0 3 "round_of" (spRound K) := by
  have sc : FnScope ["turners", "found", "one"] ["turners"] (defScope s_round_of) := ⟨rfl, rfl, rfl, by decide +kernel, rfl, by decide +kernel, by decide +kernel⟩
  refine F.ok sc (fun vs H Q E h => ?_) (fun f cdv A outer s H vs Q E hr h => ?_)
  · obtain ⟨a, ts, rfl, _⟩ := h
    rfl
  · obtain ⟨a, ts, rfl, hS, hG, q⟩ := h
    refine ⟨_, (pss_cons (ps_expr (pe_d c_asked_turners hr (by decide) (by rfl) (pa_cons (pv 0) pa_nil)))
      (pss_cons (ps_set (i := 1) sc.nd rfl (by first | exact Or.inl rfl | exact Or.inr rfl) pe_int)
      (pss_cons (ps_for PassesOwn.never rfl (pi_list (pe_d c_left_over hr (by decide) (by rfl) (pa_cons (pv 0) pa_nil))) (pg_name (i := 2) sc.nd rfl (by first | exact Or.inl rfl | exact Or.inr rfl))
      (pss_one (ps_set (i := 1) sc.nd rfl (by first | exact Or.inl rfl | exact Or.inr rfl) (pe_d c_both hr (by decide) (by rfl) (pa_cons (pv 1) (pa_cons (pv 2) pa_nil))))))
      (pss_one (ps_ret (pv 1)))))), ?_⟩
    walk_at "go"
    refine ⟨a, ts, rfl, hS, hG, fun H1 e1 => ?_⟩
    walk_at "go"
    refine ⟨a, ts, rfl, ex_l e1 hS, by have := hG.len; omega, fun ks hk p H2 np e2 hp => ?_⟩
    obtain ⟨ok, q⟩ := q ks hk
    have pos := hk.pos hG.pos
    refine ⟨p, rfl, ⟨_, .inl (.inl hp)⟩, f_list (xs := ks.map V.int) (fun i σ H' => ∃ y, σ = [some (.ref a), some (.int (rnd (ks.take i))), y] ∧ H' = H2) ⟨none, rfl, rfl⟩ (fun i σ H' _ h => by obtain ⟨_, _, rfl⟩ := h; exact .inl (.inl hp)) (fun i x σ H' hx h => ?_) (fun σ H' h => ?_)⟩
    · obtain ⟨y, rfl, rfl⟩ := h
      obtain ⟨rfl, hi, hg⟩ := getD_of hx
      obtain ⟨o1, o2⟩ := ok i _ hg
      have r0 : 0 < rnd (ks.take i) := rnd_pos fun k hkm => by have := pos k (List.mem_of_mem_take hkm); omega
      have k0 := pos _ (getD_mem hi)
      walk_at "go"
      refine ⟨_, _, rfl, r0, by omega, o1, o2, ?_⟩
      refine ⟨some (.int (ks.getD i 0)), ?_, rfl⟩
      rw [rnd_take hg]
      rfl
    · obtain ⟨y, rfl, rfl⟩ := h
      rw [List.length_map, List.take_length]
      walk_at "go"
      exact q H' (e1.trans e2)
end
abbrev s_how_many : Stmt := topS 26
section
variable {P : Program} {w : World} {K : PySem.W.Frag} {mg : Str → Option Value} {base : Heap}
/-! how_many -/
/-- a list of pairs, tracked -/
inductive Tm (H : Hp) : List V → List Term → Prop
  | nil : Tm H [] []
  | cons {q : Addr} {p : Term} {vs : List V} {ts : List Term} : H q = some (.tup [.int p.1, .int p.2]) → Tm H vs ts → Tm H (.ref q :: vs) (p :: ts)
theorem Tm.mono {H H' : Hp} (e : Ex H H') {vs : List V} {ts : List Term} (h : Tm H vs ts) : Tm H' vs ts := by
  induction h with
  | nil => exact .nil
  | cons hq _ ih => exact .cons (e _ _ hq) ih
theorem Tm.app {H : Hp} {vs us : List V} {ts rs : List Term} (h : Tm H vs ts) (g : Tm H us rs) : Tm H (vs ++ us) (ts ++ rs) := by
  induction h with
  | nil => exact g
  | cons hq _ ih => exact .cons hq ih
theorem Tm.len {H : Hp} {vs : List V} {ts : List Term} (h : Tm H vs ts) : vs.length = ts.length := by
  induction h with
  | nil => rfl
  | cons _ _ ih => rw [List.length_cons, List.length_cons, ih]
theorem Tm.get {H : Hp} {vs : List V} {ts : List Term} (h : Tm H vs ts) : ∀ {i : Nat} {x : V}, vs[i]? = some x → ∃ q p, x = .ref q ∧ ts[i]? = some p ∧ H q = some (.tup [.int p.1, .int p.2]) := by
  induction h with
  | nil => intro i x e; simp at e
  | @cons q p vs ts hq _ ih =>
    intro i x e
    cases i with
    | zero => exact ⟨q, p, (Option.some.inj e).symm, rfl, hq⟩
    | succ i => exact ih (by simpa using e)
theorem Tm.put {H : Hp} {D : Addr} {l l' : List V} (hD : H D = some (.lst l)) {vs : List V} {ts : List Term} (h : Tm H vs ts) : Tm (upd H D (.lst l')) vs ts := by
  induction h with
  | nil => exact .nil
  | @cons q p vs ts hq _ ih =>
    have n1 : q ≠ D := fun z => by rw [z, hD] at hq; cases hq
    exact .cons (by rw [upd_ne n1]; exact hq) ih
theorem Tm.tail {H : Hp} {v : V} {vs : List V} {p : Term} {ts : List Term} (h : Tm H (v :: vs) (p :: ts)) : Tm H vs ts := by
  cases h
  assumption
def spHow (K : PySem.W.Frag) : Sp := fun vs H Q _ => ∃ (a : Addr) (ts : List Int) (n : Nat), vs = [.ref a, .int n] ∧ SqL K H a (ts.map V.int) ∧ Good ts ∧ ∀ ks, IsKept ts ks → ks.length ≤ 12 ∧ (∃ B : Nat, (∀ k ∈ ks, k.natAbs < 2 ^ B) ∧ ks.length * B + 1 ≤ wid) ∧ RetV (.int (cnt ts n : Nat)) H Q
theorem ok_how_many (F : Df K mg "how_many" s_how_many ["turners", "many"]) (B : Blt mg) (g_FEW : ∃ t, mg "FEW" = some (.int 12 t)) (c_asked_turners : Cal P w K mg base CX0 2 "asked_turners" (spAskT K)) (c_asked_count : Cal P w K mg base CX0 1 "asked_count" spAskC) (c_left_over : Cal P w K mg base CX0 1 "left_over" (spLeft K)) (c_both : Cal P w K mg base CX0 2 "both" spBoth) : Cal P w K mg base CX0 3 "how_many" (spHow K) := by
  obtain ⟨tm, g_FEW⟩ := g_FEW
  have sc : FnScope ["turners", "many", "some", "terms", "one", "step", "often"] ["turners", "many"] (defScope s_how_many) := ⟨rfl, rfl, rfl, by decide +kernel, rfl, by decide +kernel, by decide +kernel⟩
  refine F.ok sc (fun vs H Q E h => ?_) (fun f cdv A outer s H vs Q E hr h => ?_)
  · obtain ⟨a, ts, n, rfl, _⟩ := h
    rfl
  · obtain ⟨a, ts, n, rfl, hS, hG, q⟩ := h
    refine ⟨_, (pss_cons (ps_expr (pe_d c_asked_turners hr (by decide) (by rfl) (pa_cons (pv 0) pa_nil)))
      (pss_cons (ps_expr (pe_d c_asked_count hr (by decide) (by rfl) (pa_cons (pv 1) pa_nil)))
      (pss_cons (ps_set (i := 2) sc.nd rfl (by first | exact Or.inl rfl | exact Or.inr rfl) (pe_d c_left_over hr (by decide) (by rfl) (pa_cons (pv 0) pa_nil)))
      (pss_cons (ps_if (pt_cmpR op_gt (pe_callB call_len_s (by rfl) B.len_ boot_len (pa_cons (pv 2) pa_nil)) (pe_glob (v := .int 12) (by rfl) g_FEW ⟨_, rfl⟩) (nomark _))
      (pss_one ps_never) pss_nil)
      (pss_cons (ps_set (i := 3) sc.nd rfl (by first | exact Or.inl rfl | exact Or.inr rfl) (pe_lst (pa_cons (pe_tup (pa_cons pe_int (pa_cons pe_int pa_nil))) pa_nil)))
      (pss_cons (ps_for PassesOwn.never rfl (pi_list (pv 2)) (pg_name (i := 4) sc.nd rfl (by first | exact Or.inl rfl | exact Or.inr rfl))
      (pss_one (ps_set (i := 3) sc.nd rfl (by first | exact Or.inl rfl | exact Or.inr rfl) (pe_op op_cat (pv 3) (pe_lc (own := [("step", 5), ("often", 6)]) (g := (gTup _ 2 (gCons (gName 5) (gCons (gName 6) gNil)))) (by rfl) sc.nd (pi_list (pv 3)) (blkOk_by (own := [("step", 5), ("often", 6)]) (N := ["turners", "many", "some", "terms", "one", "step", "often"]) (sc := defScope s_how_many) (by decide +kernel)) (fun _ _ _ _ _ => (pg_tup rfl (pgs_cons (pg_name (i := 5) sc.nd rfl (by first | exact Or.inl rfl | exact Or.inr rfl)) (pgs_cons (pg_name (i := 6) sc.nd rfl (by first | exact Or.inl rfl | exact Or.inr rfl)) pgs_nil)))) (fun _ _ _ _ _ => pts_nil) (fun _ _ _ _ _ => (pe_tup (pa_cons (pe_d c_both hr (by decide) (by rfl) (pa_cons (pv 5) (pa_cons (pv 4) pa_nil))) (pa_cons (pe_op op_mul (pe_un un_neg pe_int) (pv 6)) pa_nil)))))))))
      (pss_one (ps_ret (pe_op op_fdivN (pe_callB (cr_sum rfl) (by rfl) B.sum_ boot_sum (pa_cons (pe_lc (own := [("step", 5), ("often", 6)]) (g := (gTup _ 2 (gCons (gName 5) (gCons (gName 6) gNil)))) (by rfl) sc.nd (pi_list (pe_slice sl_list (pv 3) (po_some pe_int) po_none)) (blkOk_by (own := [("step", 5), ("often", 6)]) (N := ["turners", "many", "some", "terms", "one", "step", "often"]) (sc := defScope s_how_many) (by decide +kernel)) (fun _ _ _ _ _ => (pg_tup rfl (pgs_cons (pg_name (i := 5) sc.nd rfl (by first | exact Or.inl rfl | exact Or.inr rfl)) (pgs_cons (pg_name (i := 6) sc.nd rfl (by first | exact Or.inl rfl | exact Or.inr rfl)) pgs_nil)))) (fun _ _ _ _ _ => pts_nil) (fun _ _ _ _ _ => (pe_op op_mul (pv 6) (pe_op op_fdivW (pv 1) (pv 5))))) pa_nil)) (pe_un un_neg pe_int)))))))))), ?_⟩
    walk_at "go"
    refine ⟨a, ts, rfl, hS, hG, fun H1 e1 => ?_⟩
    walk_at "go"
    refine ⟨n, rfl, by omega, ?_⟩
    walk_at "go"
    refine ⟨a, ts, rfl, ex_l e1 hS, by have := hG.len; omega, fun ks hk so H2 nso e2 hso => ?_⟩
    obtain ⟨k12, ⟨bt, hbt, hbl⟩, q⟩ := q ks hk
    have pos := hk.pos hG.pos
    walk_at "go"
    refine c_len (.inl (.inl hso)) ?_
    walk_at "go"
    refine w_f (decide_eq_false (by rw [List.length_map]; omega)) ?_
    walk_at "go"
    refine ⟨by show 2 ≤ sizeLine; decide, fun t0 nt0 => ?_⟩
    walk_at "go"
    refine ⟨by show 1 ≤ sizeLine; decide, fun tl ntl => ?_⟩
    have e3 : Ex H2 (upd (upd H2 t0 (.tup [.int 1, .int 1])) tl (.lst [.ref t0])) := (Ex.new nt0).trans (Ex.new ntl)
    have ht0 : Tm (upd (upd H2 t0 (.tup [.int 1, .int 1])) tl (.lst [.ref t0])) [.ref t0] [(1, 1)] := .cons (Ex.new ntl _ _ upd_same) .nil
    have htl : (upd (upd H2 t0 (.tup [.int 1, .int 1])) tl (.lst [.ref t0])) tl = some (.lst [.ref t0]) := upd_same
    generalize upd (upd H2 t0 (.tup [.int 1, .int 1])) tl (.lst [.ref t0]) = H3 at e3 ht0 htl ⊢
    walk_at "go"
    refine ⟨so, rfl, ⟨_, .inl (.inl (e3 _ _ hso))⟩, f_list (xs := ks.map V.int) (fun i σ H' => ∃ y4 y5 y6 tl vs tms, σ = [some (.ref a), some (.int n), some (.ref so), some (.ref tl), y4, y5, y6] ∧ Ex H3 H' ∧ H' tl = some (.lst vs) ∧ Tm H' vs tms ∧ TmOk bt i ks tms)
      ⟨_, _, _, tl, _, _, rfl, Ex.refl _, htl, ht0, TmOk.start bt ks⟩ (fun i σ H' _ h => by obtain ⟨_, _, _, _, _, _, _, e, _⟩ := h; exact .inl (.inl (e _ _ (e3 _ _ hso)))) (fun i x σ H4 hx h => ?_) (fun σ H4 h => ?_)⟩
    · obtain ⟨y4, y5, y6, tl, vs, tms, rfl, e4, htl, hTm, ok⟩ := h
      obtain ⟨rfl, hi, hg⟩ := getD_of hx
      have k0 := pos _ (getD_mem hi)
      have kB := hbt _ (getD_mem hi)
      generalize ks.getD i 0 = one at hg k0 kB
      have iB : i * bt + 1 ≤ wid := by
        have : i * bt ≤ ks.length * bt := Nat.mul_le_mul_right _ (by omega)
        omega
      have bB : bt ≤ far := by
        have : 1 * bt ≤ ks.length * bt := Nat.mul_le_mul_right _ (by omega)
        have : wid ≤ far := by decide
        omega
      have vlen : vs.length ≤ 4096 := by
        rw [hTm.len, ok.len]
        calc 2 ^ i ≤ 2 ^ 12 := Nat.pow_le_pow_right (by decide) (by omega)
          _ = 4096 := by decide
      walk_at "go"
      refine ⟨.ref tl, rfl, tl, rfl, ⟨_, .inl (.inl htl)⟩, fun D nD => ?_⟩
      refine lc_list (K := K) (xs := vs) (fun j H' => Ex H4 H' ∧ ∃ acc, H' D = some (.lst acc) ∧ Tm H' acc ((tms.take j).map fun p => (lcmI p.1 one, -2 * p.2))) ⟨Ex.new nD, [], upd_same, .nil⟩ (fun j H' _ hP => .inl (.inl (hP.1 _ _ htl))) (fun j x H' hx hP => ?_) (fun H' hP => ?_)
      · obtain ⟨ej, acc, hD, hacc⟩ := hP
        obtain ⟨tq, p, rfl, hp, htq⟩ := hTm.get hx
        have pm := List.mem_of_getElem? hp
        have p0 := ok.pos p pm
        have pS := ok.step p pm
        refine ⟨tq, _, rfl, .inl (.inl (ej _ _ htq)), rfl, _, _, rfl, _, _, rfl, rfl, rfl, ?_⟩
        walk_at "go"
        refine ⟨p.1, one, rfl, p0, by omega, num_le pS iB, num_le kB bB, ?_⟩
        walk_at "go"
        refine c_I (.inl ⟨by decide, by decide⟩) ?_
        walk_at "go"
        refine ⟨by show 2 ≤ sizeLine; decide, fun np nnp => ?_⟩
        have nDp : D ≠ np := ne_of_none hD nnp
        have hD2 : (upd H' np (.tup [.int (lcmI p.1 one), .int (-2 * p.2)])) D = some (.lst acc) := by rw [upd_ne nDp]; exact hD
        refine ⟨acc, hD2, sz_lt (by rw [hacc.len, List.length_map, List.length_take, ← hTm.len]; omega), (ej.trans (Ex.new nnp)).mut nD, _, upd_same, ?_⟩
        have tk : tms.take (j + 1) = tms.take j ++ [p] := by rw [List.take_add_one, hp]; rfl
        rw [tk, List.map_append]
        exact Tm.put hD2 ((hacc.mono (Ex.new nnp)).app (.cons upd_same .nil))
      · obtain ⟨ej, acc, hD, hacc⟩ := hP
        rw [hTm.len, List.take_length] at hacc
        refine c_cat (ej _ _ htl) hD (by rw [hacc.len, List.length_map, ← hTm.len]; omega) fun nl nnl => ?_
        walk_at "go"
        refine ⟨some (.int one), y5, y6, nl, _, nextT one tms, rfl, e4.trans (ej.trans (Ex.new nnl)), upd_same, ?_, ok.next hg (by omega) kB⟩
        exact ((hTm.mono ej).app hacc).mono (Ex.new nnl)
    · obtain ⟨y4, y5, y6, tl, vs, tms, rfl, e4, htl, hTm, ok⟩ := h
      rw [List.length_map] at ok
      obtain ⟨r, rfl⟩ := ok.hd
      obtain ⟨v0, vr, rfl⟩ : ∃ v0 vr, vs = v0 :: vr := by
        cases vs with
        | nil => have := hTm.len; cases this
        | cons v0 vr => exact ⟨v0, vr, rfl⟩
      have hTr := hTm.tail
      have klB : ks.length * bt + 1 ≤ wid := hbl
      have rlen : r.length ≤ 4096 := by
        have h1 := ok.len
        have : (2 : Nat) ^ ks.length ≤ 2 ^ 12 := Nat.pow_le_pow_right (by decide) k12
        have e : (2 : Nat) ^ 12 = 4096 := by decide
        rw [List.length_cons] at h1
        omega
      have oft64 : ∀ p ∈ r, p.2.natAbs ≤ 4096 := fun p hp => by
        have h1 := ok.oft p (List.mem_cons_of_mem _ hp)
        have : (2 : Nat) ^ ks.length ≤ 2 ^ 12 := Nat.pow_le_pow_right (by decide) k12
        have e : (2 : Nat) ^ 12 = 4096 := by decide
        omega
      walk_at "go"
      refine ⟨.ref tl, rfl, 1, rfl, tl, _, rfl, .inl (.inl htl), fun c nc => ?_⟩
      have e5 : Ex H4 (upd H4 c (.lst vr)) := Ex.new nc
      rw [cut_tail]
      have hc5 : (upd H4 c (.lst vr)) c = some (.lst vr) := upd_same
      generalize upd H4 c (.lst vr) = H5 at e5 hc5 ⊢
      refine ⟨c, rfl, ⟨_, .inl (.inl hc5)⟩, fun D nD => ?_⟩
      refine lc_list (K := K) (xs := vr) (fun j H' => Ex H5 H' ∧ H' D = some (.lst (((r.take j).map fun p => p.2 * ((n : Int) / p.1)).map V.int))) ⟨Ex.new nD, upd_same⟩ (fun j H' _ hP => .inl (.inl (hP.1 _ _ hc5))) (fun j x H' hx hP => ?_) (fun H' hP => ?_)
      · obtain ⟨ej, hD⟩ := hP
        obtain ⟨tq, p, rfl, hp, htq⟩ := hTr.get hx
        have pm := List.mem_of_getElem? hp
        have p0 := ok.pos p (List.mem_cons_of_mem _ pm)
        have pS := ok.step p (List.mem_cons_of_mem _ pm)
        have po := oft64 p pm
        refine ⟨tq, _, rfl, .inl (.inl (ej _ _ (e5 _ _ htq))), rfl, _, _, rfl, _, _, rfl, rfl, rfl, ?_⟩
        walk_at "go"
        refine c_I (wide_div p0 (num_le pS klB) (by decide) (by decide)) ?_
        walk_at "go"
        refine c_I (.inl ⟨by omega, by omega⟩) ?_
        refine ⟨_, hD, sz_lt (by rw [List.length_map, List.length_map, List.length_take]; omega), ej.mut nD, ?_⟩
        rw [upd_same, List.take_add_one, hp, List.map_append, List.map_append]
        rfl
      · obtain ⟨ej, hD⟩ := hP
        rw [hTr.len, List.take_length] at hD
        walk_at "go"
        refine c_sum (.inl (.inl hD)) ?_
        walk_at "go"
        refine c_I ⟨by decide, by decide⟩ ?_
        have key := tw_end (r := r) (ks := ks) (fun p hp => ok.pos p (List.mem_cons_of_mem _ hp)) (fun d => by rw [ok.val d, List.take_length]) n
        have e : (r.map fun p => p.2 * ((n : Int) / p.1)).sum = tw r n := rfl
        rw [e]
        show Q (V.int ((tw r n).fdiv (-2))) H'
        rw [key, cnt_same hk.opn]
        exact q H' ((((e1.trans e2).trans e3).trans e4).trans (e5.trans ej))
end
abbrev s_root : Stmt := topS 28
abbrev s_by_all : Stmt := topS 29
section
variable {P : Program} {w : World} {K : PySem.W.Frag} {mg : Str → Option Value} {base : Heap}
/-! root, by_all -/
def spRoot : Sp := fun vs H Q _ => ∃ n : Int, vs = [.int n] ∧ 0 ≤ n ∧ n.natAbs < 2 ^ huge ∧ ∀ r, IsRoot n r → RetV (.int r) H Q
theorem ok_root (F : Df K mg "root" s_root ["number"]) : Cal P w K mg base CX0 1 "root" spRoot := by
  have sc : FnScope ["number", "low", "high", "middle"] ["number"] (defScope s_root) := ⟨rfl, rfl, rfl, by decide +kernel, rfl, by decide +kernel, by decide +kernel⟩
  refine F.ok sc (fun vs H Q E h => ?_) (fun f cdv A outer s H vs Q E hr h => ?_)
  · obtain ⟨n, rfl, _⟩ := h
    rfl
  · obtain ⟨n, rfl, h0, hn, q⟩ := h
    refine ⟨_, (pss_cons (ps_asg (pe_tup (pa_cons pe_int (pa_cons pe_int pa_nil))) (pg_tup rfl (pgs_cons (pg_name (i := 1) sc.nd rfl (by first | exact Or.inl rfl | exact Or.inr rfl)) (pgs_cons (pg_name (i := 2) sc.nd rfl (by first | exact Or.inl rfl | exact Or.inr rfl)) pgs_nil))))
      (pss_cons (ps_while PassesOwn.never (pt_cmpR op_le (pe_op op_mulB (pv 2) (pv 2)) (pv 0) (nomark _))
      (pss_one (ps_set (i := 2) sc.nd rfl (by first | exact Or.inl rfl | exact Or.inr rfl) (pe_op op_mul (pv 2) pe_int))))
      (pss_cons (ps_while PassesOwn.never (pt_cmpR op_gt (pe_op op_sub (pv 2) (pv 1)) pe_int (nomark _))
      (pss_cons (ps_set (i := 3) sc.nd rfl (by first | exact Or.inl rfl | exact Or.inr rfl) (pe_op op_fdiv (pe_op op_add (pv 1) (pv 2)) pe_int))
      (pss_one (ps_if (pt_cmpR op_le (pe_op op_mulB (pv 3) (pv 3)) (pv 0) (nomark _))
      (pss_one (ps_set (i := 1) sc.nd rfl (by first | exact Or.inl rfl | exact Or.inr rfl) (pv 3))) (pss_one (ps_set (i := 2) sc.nd rfl (by first | exact Or.inl rfl | exact Or.inr rfl) (pv 3)))))))
      (pss_one (ps_ret (pv 1)))))), ?_⟩
    have small : ∀ x : Int, 0 ≤ x → x ≤ 2 * n + 1 → x.natAbs < 2 ^ (huge + 1) := fun x x0 x1 => num_dbl hn h0 x0 x1
    have mul : ∀ x : Int, 0 ≤ x → x ≤ 2 * n + 1 → IntMulOk x x := fun x x0 x1 => mulOk (small x x0 x1) (small x x0 x1) (by decide)
    walk_at "go"
    refine ⟨by show 2 ≤ sizeLine; decide, fun tp ntp => ?_⟩
    have etp : Ex H (upd H tp (.tup [.int 0, .int 1])) := Ex.new ntp
    refine ⟨tp, _, rfl, .inl (.inl upd_same), rfl, _, _, rfl, _, _, rfl, rfl, ?_⟩
    generalize upd H tp (.tup [.int 0, .int 1]) = H0 at etp ⊢
    refine c_seq ?_
    refine ⟨fun m σ H' => ∃ hi : Int, σ = [some (.int n), some (.int 0), some (.int hi), none] ∧ H' = H0 ∧ 1 ≤ hi ∧ hi ≤ 2 * n + 1 ∧ m = (2 * n + 2 - hi).toNat, ⟨_, 1, rfl, rfl, by omega, by omega, rfl⟩, fun m σ H' hW => ?_⟩
    obtain ⟨hi, rfl, rfl, g1, g2, rfl⟩ := hW
    walk_at "go"
    refine c_I (mul hi (by omega) g2) ?_
    walk_at "go"
    refine w_2 (fun hb => ?_) (fun hb => ?_)
    · have hle : hi * hi ≤ n := of_decide_eq_true hb
      have hin := le_sq g1 hle
      refine n_self ?_
      walk_at "go"
      refine c_I (.inr ⟨by decide, by decide⟩) ?_
      exact ⟨_, by omega, hi * 2, rfl, rfl, by omega, by omega, rfl⟩
    · have hlt : ¬ hi * hi ≤ n := of_decide_eq_false hb
      walk_at "go"
      refine ⟨fun m σ H'' => ∃ lo hi y, σ = [some (.int n), some (.int lo), some (.int hi), y] ∧ H'' = H' ∧ 0 ≤ lo ∧ lo < hi ∧ hi ≤ 2 * n + 1 ∧ lo * lo ≤ n ∧ n < hi * hi ∧ m = (hi - lo).toNat, ⟨_, 0, hi, none, rfl, rfl, by omega, by omega, g2, by omega, by omega, rfl⟩, fun m σ H'' hW => ?_⟩
      obtain ⟨lo, hi, y, rfl, rfl, l0, l1, l2, l3, l4, rfl⟩ := hW
      walk_at "go"
      refine w_2 (fun hb => ?_) (fun hb => ?_)
      · have h1 : 1 < hi - lo := of_decide_eq_true hb
        refine n_self ?_
        walk_at "go"
        refine c_I ⟨by decide, by decide⟩ ?_
        generalize hm : (lo + hi) / 2 = mid
        have m1 : lo < mid := by omega
        have m2 : mid < hi := by omega
        walk_at "go"
        refine c_I (mul mid (by omega) (by omega)) ?_
        walk_at "go"
        refine w_2 (fun hb => ?_) (fun hb => ?_)
        · have hle : mid * mid ≤ n := of_decide_eq_true hb
          walk_at "go"
          exact ⟨_, by omega, mid, hi, some (.int mid), rfl, rfl, by omega, by omega, l2, hle, l4, rfl⟩
        · have hle : ¬ mid * mid ≤ n := of_decide_eq_false hb
          walk_at "go"
          exact ⟨_, by omega, lo, mid, some (.int mid), rfl, rfl, by omega, by omega, by omega, l3, by omega, rfl⟩
      · have h1 : ¬ 1 < hi - lo := of_decide_eq_false hb
        have e : hi = lo + 1 := by omega
        subst e
        walk_at "go"
        exact q lo ⟨l0, l3, l4⟩ _ etp
theorem ok_by_all (F : Df K mg "by_all" s_by_all ["many"]) (c_asked_count : Cal P w K mg base CX0 1 "asked_count" spAskC) (c_root : Cal P w K mg base CX0 1 "root" spRoot) : Cal P w K mg base CX0 2 "by_all" spRoot := by
  have sc : FnScope ["many"] ["many"] (defScope s_by_all) := ⟨rfl, rfl, rfl, by decide +kernel, rfl, by decide +kernel, by decide +kernel⟩
  refine F.ok sc (fun vs H Q E h => ?_) (fun f cdv A outer s H vs Q E hr h => ?_)
  · obtain ⟨n, rfl, _⟩ := h
    rfl
  · obtain ⟨n, rfl, h0, hn, q⟩ := h
    refine ⟨_, (pss_cons (ps_expr (pe_d c_asked_count hr (by decide) (by rfl) (pa_cons (pv 0) pa_nil)))
      (pss_one (ps_ret (pe_d c_root hr (by decide) (by rfl) (pa_cons (pv 0) pa_nil))))), ?_⟩
    walk_at "go"
    refine ⟨n, rfl, h0, ?_⟩
    walk_at "go"
    exact ⟨n, rfl, h0, hn, q⟩
end
abbrev s_by_stretch : Stmt := topS 30
section
variable {P : Program} {w : World} {K : PySem.W.Frag} {mg : Str → Option Value} {base : Heap}
/-! by_stretch -/
def spStretch : Sp := fun vs H Q _ => ∃ f l d : Int, vs = [.int f, .int l, .int d] ∧ 1 ≤ f ∧ f ≤ l ∧ 1 ≤ d ∧ d ≤ 1000000000 ∧ Q (.bl (decide (cA f l d % 2 = 1))) H
theorem in_chain {f l x : Int} : (if inR f l x = true then (1 : Int) else 0) = if f ≤ x then (if x ≤ l then 1 else 0) else 0 := by
  unfold inR
  by_cases h1 : f ≤ x <;> by_cases h2 : x ≤ l <;> simp [h1, h2]
theorem ok_by_stretch (F : Df K mg "by_stretch" s_by_stretch ["first", "last", "door"]) (c_is_number : Cal P w K mg base CX0 1 "is_number" spNum) (c_asked_door : Cal P w K mg base CX0 2 "asked_door" spAskD) (g_GREATEST : ∃ t, mg "GREATEST" = some (.int 1000000000 t)) : Cal P w K mg base CX0 3 "by_stretch" spStretch := by
  obtain ⟨tm, g_GREATEST⟩ := g_GREATEST
  have sc : FnScope ["first", "last", "door", "found", "at"] ["first", "last", "door"] (defScope s_by_stretch) := ⟨rfl, rfl, rfl, by decide +kernel, rfl, by decide +kernel, by decide +kernel⟩
  refine F.ok sc (fun vs H Q E h => ?_) (fun f cdv A outer s H vs Q E hr h => ?_)
  · obtain ⟨f, l, d, rfl, _⟩ := h
    rfl
  · obtain ⟨f, l, d, rfl, hf, hl, hd, hg, q⟩ := h
    refine ⟨_, (pss_cons (ps_if (PW.pt (pw_or (pt_not (pt_val (pe_d c_is_number hr (by decide) (by rfl) (pa_cons (pv 0) pa_nil)))) (pw_or (pt_not (pt_val (pe_d c_is_number hr (by decide) (by rfl) (pa_cons (pv 1) pa_nil)))) (pw_or1 (pt_cmpR op_lt (pv 1) (pv 0) (nomark _))))))
      (pss_one ps_never) pss_nil)
      (pss_cons (ps_expr (pe_d c_asked_door hr (by decide) (by rfl) (pa_cons (pv 2) pa_nil)))
      (pss_cons (ps_if (pt_cmpR op_gt (pv 2) (pe_glob (v := .int 1000000000) (by rfl) g_GREATEST ⟨_, rfl⟩) (nomark _))
      (pss_one ps_never) pss_nil)
      (pss_cons (ps_set (i := 3) sc.nd rfl (by first | exact Or.inl rfl | exact Or.inr rfl) pe_int)
      (pss_cons (ps_set (i := 4) sc.nd rfl (by first | exact Or.inl rfl | exact Or.inr rfl) pe_int)
      (pss_cons (ps_while PassesOwn.never (pt_cmpR op_le (pe_op op_mul (pv 4) (pv 4)) (pv 2) (nomark _))
      (pss_cut (ps_if (pt_cmpR op_eq (pe_op op_mod (pv 2) (pv 4)) pe_int (nomark _))
      (pss_cons (ps_set (i := 3) sc.nd rfl (by first | exact Or.inl rfl | exact Or.inr rfl) (pe_op op_add (pv 3) (pe_ifExp (pt_chain op_le op_le (pv 0) (pv 4) (pv 1)) pe_int pe_int)))
      (pss_one (ps_if (pt_cmpR op_lt (pe_op op_mul (pv 4) (pv 4)) (pv 2) (nomark _))
      (pss_one (ps_set (i := 3) sc.nd rfl (by first | exact Or.inl rfl | exact Or.inr rfl) (pe_op op_add (pv 3) (pe_ifExp (pt_chain op_le op_le (pv 0) (pe_op op_fdiv (pv 2) (pv 4)) (pv 1)) pe_int pe_int)))) pss_nil))) pss_nil)
      (pss_one (ps_set (i := 4) sc.nd rfl (by first | exact Or.inl rfl | exact Or.inr rfl) (pe_op op_add (pv 4) pe_int)))))
      (pss_one (ps_ret (pe_cmpR op_eq (pe_op op_mod (pv 3) pe_int) pe_int (nomark _)))))))))), ?_⟩
    walk_at "go"
    refine ⟨f, rfl, ?_⟩
    rw [decide_eq_true (show 0 < f by omega)]
    walk_at "go"
    refine ⟨l, rfl, ?_⟩
    rw [decide_eq_true (show 0 < l by omega)]
    walk_at "go"
    refine w_f (decide_eq_false (by omega)) ?_
    walk_at "go"
    refine ⟨d, rfl, hd, ?_⟩
    walk_at "go"
    refine w_f (decide_eq_false (by omega)) ?_
    walk_at "go"
    refine ⟨fun m σ H' => ∃ at_ : Int, σ = [some (.int f), some (.int l), some (.int d), some (.int (cS f l d at_ : Nat)), some (.int at_)] ∧ H' = H ∧ 1 ≤ at_ ∧ at_ ≤ d + 1 ∧ m = (d + 1 - at_).toNat, ⟨_, 1, by rw [cS_start]; rfl, rfl, by omega, by omega, rfl⟩, fun m σ H' hW => ?_⟩
    obtain ⟨x, rfl, rfl, x1, x2, rfl⟩ := hW
    walk_at "go"
    refine c_I (.inl ⟨by omega, by omega⟩) ?_
    walk_at "go"
    refine w_2 (fun hb => ?_) (fun hb => ?_)
    · have hle : x * x ≤ d := of_decide_eq_true hb
      have hxd := le_sq x1 hle
      refine n_self ?_
      refine ⟨fun σ' H'' => σ' = [some (.int f), some (.int l), some (.int d), some (.int (cS f l d (x + 1) : Nat)), some (.int x)] ∧ H'' = H', ?_, fun σ' H'' h => ?_⟩
      · walk_at "go"
        refine c_I (by omega) ?_
        walk_at "go"
        refine w_2 (fun hb => ?_) (fun hb => ?_)
        · have hz : d % x = 0 := of_decide_eq_true hb
          obtain ⟨e, rfl⟩ := Int.dvd_of_emod_eq_zero hz
          have hxe : x ≤ e := by
            by_cases z : x ≤ e
            · exact z
            · exfalso
              have : x * e < x * x := Int.mul_lt_mul_of_pos_left (by omega) (by omega)
              omega
          have st := cS_step (f := f) (l := l) x1 hxe
          walk_at "goI"
          refine c_ev (fun v H1 => v = .int (if inR f l x = true then 1 else 0) ∧ H1 = H') (fun Q' k => ?_) (fun v H1 hv => ?_)
          · walk_at "go"
            rw [in_chain] at k
            refine w_2 (fun hb => ?_) (fun hb => ?_)
            · have hb := of_decide_eq_true hb
              walk_at "go"
              refine w_2 (fun hb2 => ?_) (fun hb2 => ?_)
              · have hb2 := of_decide_eq_true hb2
                walk_at "go"
                exact k _ _ ⟨by rw [if_pos hb, if_pos hb2], rfl⟩
              · have hb2 := of_decide_eq_false hb2
                walk_at "go"
                exact k _ _ ⟨by rw [if_pos hb, if_neg hb2], rfl⟩
            · have hb := of_decide_eq_false hb
              walk_at "go"
              exact k _ _ ⟨by rw [if_neg hb], rfl⟩
          obtain ⟨rfl, rfl⟩ := hv
          walk_at "go"
          refine c_I (.inl ⟨by omega, by omega⟩) ?_
          walk_at "go"
          refine w_2 (fun hb => ?_) (fun hb => ?_)
          · have hlt : x * x < x * e := of_decide_eq_true hb
            have hlt2 : x < e := Int.lt_of_mul_lt_mul_left hlt (by omega)
            walk_at "goI"
            refine c_ev (fun v H2 => v = .int (if inR f l e = true then 1 else 0) ∧ H2 = H1) (fun Q' k => ?_) (fun v H2 hv => ?_)
            · walk_at "go"
              refine c_I ⟨by omega, by omega⟩ ?_
              rw [mul_div_self (by omega)]
              rw [in_chain] at k
              walk_at "go"
              refine w_2 (fun hb => ?_) (fun hb => ?_)
              · have hb := of_decide_eq_true hb
                walk_at "go"
                refine w_2 (fun hb2 => ?_) (fun hb2 => ?_)
                · have hb2 := of_decide_eq_true hb2
                  walk_at "go"
                  exact k _ _ ⟨by rw [if_pos hb, if_pos hb2], rfl⟩
                · have hb2 := of_decide_eq_false hb2
                  walk_at "go"
                  exact k _ _ ⟨by rw [if_pos hb, if_neg hb2], rfl⟩
              · have hb := of_decide_eq_false hb
                walk_at "go"
                exact k _ _ ⟨by rw [if_neg hb], rfl⟩
            obtain ⟨rfl, rfl⟩ := hv
            walk_at "go"
            refine ⟨?_, rfl⟩
            rw [if_pos hlt2] at st
            have e3 : ((cS f l (x * e) (x + 1) : Nat) : Int) = (cS f l (x * e) x : Nat) + (if inR f l x = true then 1 else 0) + (if inR f l e = true then 1 else 0) := by
              rw [st]
              by_cases i1 : inR f l x = true <;> by_cases i2 : inR f l e = true <;> simp [i1, i2] <;> omega
            rw [e3]
            rfl
          · have hlt : ¬ x * x < x * e := of_decide_eq_false hb
            have hlt2 : ¬ x < e := fun z => hlt (Int.mul_lt_mul_of_pos_left z (by omega))
            walk_at "go"
            refine ⟨?_, rfl⟩
            rw [if_neg hlt2] at st
            have e3 : ((cS f l (x * e) (x + 1) : Nat) : Int) = (cS f l (x * e) x : Nat) + (if inR f l x = true then 1 else 0) := by
              rw [st]
              by_cases i1 : inR f l x = true <;> simp [i1]
            rw [e3]
            rfl
        · have hz : ¬ d % x = 0 := of_decide_eq_false hb
          walk_at "go"
          exact ⟨by rw [cS_none x1 hz], rfl⟩
      · obtain ⟨rfl, rfl⟩ := h
        walk_at "go"
        exact ⟨_, by omega, x + 1, rfl, rfl, by omega, by omega, rfl⟩
    · have hlt : ¬ x * x ≤ d := of_decide_eq_false hb
      rw [cS_end x1 (by omega)]
      walk_at "go"
      refine c_I (by decide) ?_
      walk_at "go"
      have e : decide ((((cA f l d : Nat) : Int) % 2) = 1) = decide (cA f l d % 2 = 1) := by rw [Bool.eq_iff_iff]; simp; omega
      rw [e]
      exact q
end
/-! ### lists of truths, compared -/
theorem boolsD (bs : List Bool) : ∀ K H, DpAll K H (bs.map V.bl) (bs.map PyData.bool) := by
  intro K H
  induction bs with
  | nil => exact .nil
  | cons b r ih => exact .cons (.bl b) ih
theorem bools_lay : ∀ bs : List Bool, PyData.canLayAll0 (bs.map PyData.bool) = true
  | [] => rfl
  | b :: r => by
    have ih := bools_lay r
    simp [PyData.canLayAll0, PyData.canLay0, ih]
theorem bools_depth : ∀ bs : List Bool, PyData.depthAll (bs.map PyData.bool) ≤ 1
  | [] => by simp [PyData.depthAll]
  | b :: r => by
    have ih := bools_depth r
    simp [PyData.depthAll, PyData.depth]
    omega
theorem bools_shaped (bs : List Bool) : SeqAt.shaped (.list (bs.map PyData.bool)) = true := by
  unfold SeqAt.shaped
  have h1 := bools_lay bs
  have h2 := bools_depth bs
  simp [PyData.canLay0, PyData.depth, h1]
  omega
theorem bools_eqv : ∀ a b : List Bool, PyData.eqvAll (a.map PyData.bool) (b.map PyData.bool) = decide (a = b)
  | [], [] => rfl
  | [], _ :: _ => by simp [PyData.eqvAll]
  | _ :: _, [] => by simp [PyData.eqvAll]
  | x :: a, y :: b => by
    have ih := bools_eqv a b
    rw [List.map_cons, List.map_cons, PyData.eqvAll, ih, Bool.eq_iff_iff]
    cases x <;> cases y <;> simp [PyData.eqv]
theorem c_eqBs {K : PySem.W.Frag} {H : Hp} {Q : VK} {a b : Addr} {xs ys : List Bool} (ha : SqL K H a (xs.map V.bl)) (hb : SqL K H b (ys.map V.bl)) (k : Q (.bl (decide (xs = ys))) H) : rEqD K (.ref a) (.ref b) H Q :=
  ⟨_, _, .lst ha (boolsD xs K H), .lst hb (boolsD ys K H), bools_shaped xs, bools_shaped ys, by
    rw [PyData.eqv, bools_eqv]; exact k⟩
theorem c_neBs {K : PySem.W.Frag} {H : Hp} {Q : VK} {a b : Addr} {xs ys : List Bool} (ha : SqL K H a (xs.map V.bl)) (hb : SqL K H b (ys.map V.bl)) (k : Q (.bl (!decide (xs = ys))) H) : rNeD K (.ref a) (.ref b) H Q :=
  ⟨_, _, .lst ha (boolsD xs K H), .lst hb (boolsD ys K H), bools_shaped xs, bools_shaped ys, by
    rw [PyData.eqv, bools_eqv]; exact k⟩
/-! ### counts of two, of one -/
theorem cnt_terms {ks : List Int} {ts : List Term} (hp : ∀ p ∈ ts, 0 < p.1) (h : ∀ d, tv ts d = sg (opn ks d)) (n : Nat) : 2 * (cnt ks n : Int) = (n : Int) - tw ts n := by
  have := tw_cnt hp h n
  omega
theorem cnt_two {a b : Int} (ha : 0 < a) (hb : 0 < b) (n : Nat) : (cnt [a, b] n : Int) = (n : Int) / a + (n : Int) / b - 2 * ((n : Int) / lcmI a b) := by
  have hp : ∀ p ∈ nextT b (nextT a [(1, 1)]), 0 < p.1 := nextT_pos hb (nextT_pos ha (by intro p hp; rw [List.mem_singleton.mp hp]; decide))
  have h := cnt_terms (ks := [a, b]) hp (fun d => tv_snoc (pre := [a]) (tv_snoc (pre := []) (tv_start d))) n
  have e : tw (nextT b (nextT a [(1, 1)])) n = (n : Int) - 2 * ((n : Int) / a) - 2 * ((n : Int) / b) + 4 * ((n : Int) / lcmI a b) := by
    show 1 * ((n : Int) / 1) + (-2 * 1 * ((n : Int) / lcmI 1 a) + (-2 * 1 * ((n : Int) / lcmI 1 b) + (-2 * (-2 * 1) * ((n : Int) / lcmI (lcmI 1 a) b) + 0))) = _
    rw [lcm_one a ha, lcm_one b hb, Int.ediv_one]
    omega
  rw [e] at h
  omega
theorem cnt_sole {a : Int} (ha : 0 < a) (n : Nat) : (cnt [a] n : Int) = (n : Int) / a := by
  have hp : ∀ p ∈ nextT a [(1, 1)], 0 < p.1 := nextT_pos ha (by intro p hp; rw [List.mem_singleton.mp hp]; decide)
  have h := cnt_terms (ks := [a]) hp (fun d => tv_snoc (pre := []) (tv_start d)) n
  have e : tw (nextT a [(1, 1)]) n = (n : Int) - 2 * ((n : Int) / a) := by
    show 1 * ((n : Int) / 1) + (-2 * 1 * ((n : Int) / lcmI 1 a) + 0) = _
    rw [lcm_one a ha, Int.ediv_one]
    omega
  rw [e] at h
  omega
abbrev s_turners_for : Stmt := topS 36
/-! ### the row of doors still due -/
def dueL (n : Nat) (B : Int → Bool) : List V := (List.range (n + 1)).map fun i : Nat => V.bl (B (i : Int))
theorem dueL_len (n : Nat) (B : Int → Bool) : (dueL n B).length = n + 1 := by unfold dueL; simp
theorem dueL_at {n : Nat} {B : Int → Bool} {d : Int} (h0 : 0 ≤ d) (h1 : d ≤ n) : atI (dueL n B) d = some (.bl (B d)) := by
  obtain ⟨k, rfl⟩ := Int.eq_ofNat_of_zero_le h0
  refine atI_nat ?_
  unfold dueL
  rw [List.getElem?_map, List.getElem?_range (by omega)]
  rfl
theorem dueL_set {n k : Nat} {B : Int → Bool} {b : Bool} (h : k ≤ n) : (dueL n B).set k (.bl b) = dueL n (fun d => if d = (k : Int) then b else B d) := by
  apply List.ext_getElem?
  intro i
  unfold dueL
  rw [List.getElem?_set]
  by_cases e : k = i
  · subst e
    rw [if_pos rfl, if_pos (by simp; omega), List.getElem?_map, List.getElem?_range (by omega)]
    simp
  · rw [if_neg e, List.getElem?_map, List.getElem?_map]
    by_cases hi : i < n + 1
    · rw [List.getElem?_range hi]
      simp
      intro z
      omega
    · rw [List.getElem?_eq_none (by simp; omega)]
      rfl
theorem dueL_start (n : Nat) : (List.replicate ((n : Int) + 1).toNat [V.bl false]).flatten = dueL n (fun _ => false) := by
  have e : ((n : Int) + 1).toNat = n + 1 := by omega
  rw [e]
  have key : ∀ m : Nat, (List.replicate m [V.bl false]).flatten = (List.range m).map fun _ => V.bl false := by
    intro m
    induction m with
    | zero => rfl
    | succ m ih => rw [List.replicate_succ', List.flatten_append, ih, List.range_succ, List.map_append]; rfl
  exact key (n + 1)
theorem dueL_congr {n : Nat} {B C : Int → Bool} (h : ∀ d : Int, 0 ≤ d → d ≤ n → B d = C d) : dueL n B = dueL n C := by
  unfold dueL
  refine List.map_congr_left fun i hi => ?_
  rw [List.mem_range] at hi
  rw [h i (by omega) (by omega)]
theorem Sv.congr {D F : List Int} {n i : Nat} {B C : Int → Bool} (h : Sv D n i F B) (hi : i ≤ n) (e : ∀ d : Int, 1 ≤ d → d ≤ n → C d = B d) : Sv D n i F C :=
  ⟨h.rise, h.rng, fun d h1 h2 => by rw [e d h1 h2]; exact h.due d h1 h2, fun d h1 h2 => by rw [e d h1 (by omega)]; exact h.off d h1 h2⟩
theorem rise_len {D : List Int} {n : Nat} (hr : D.Pairwise (· < ·)) (hm : ∀ x ∈ D, 1 ≤ x ∧ x ≤ n) : D.length ≤ n := by
  have := len_sub (nodup_of_rise hr) (ts := upto n) fun x hx => mem_upto.mpr (hm x hx)
  rwa [upto_len] at this
theorem c_iR3 {σ : L2.St} {H : Hp} {tr : TA} {R : It → Hp → Prop} (k : tr σ H fun vs H1 => ∃ (i j c : Int) (n : Nat), vs = [.int i, .int j, .int c] ∧ RgC i j c n ∧ R (Itc i c n) H1) : iRng3 tr σ H R := k
/-- the step range's turns -/
theorem rgC_steps {d n : Int} (h0 : 1 ≤ d) (h1 : d ≤ n) (h2 : n ≤ 1000) : RgC d (n + 1) d (n / d).toNat := by
  have e : Builtin.Range.rangeSize d (n + 1) d = n / d := by
    unfold Builtin.Range.rangeSize
    rw [if_pos (by omega), if_pos (by omega), show n + 1 - d - 1 = n + (-1) * d by omega, Int.add_mul_ediv_right _ _ (by omega)]
    omega
  have q0 : 0 ≤ n / d := Int.ediv_nonneg (by omega) (by omega)
  have q1 : n / d ≤ n := Int.ediv_le_self _ (by omega)
  refine ⟨by omega, by omega, ?_, ?_⟩
  · unfold Builtin.Range.small
    rw [e]
    simp only [Builtin.Range.rangeFitsLong, Bool.and_eq_true, Bool.or_eq_true, decide_eq_true_eq, beq_iff_eq, show d > 0 by omega, if_true]
    omega
  · rw [e]; omega
section
variable {P : Program} {w : World} {K : PySem.W.Frag} {mg : Str → Option Value} {base : Heap}
/-- rising turners up to n by which just these doors are open -/
structure Brings (n : Nat) (D F : List Int) : Prop where
  rise : F.Pairwise (· < ·)
  rng : ∀ x ∈ F, 1 ≤ x ∧ x ≤ n
  opens : opens F n = D
def spBring (K : PySem.W.Frag) : Sp := fun vs H Q _ => ∃ (a : Addr) (D : List Int) (n : Nat), vs = [.int n, .ref a] ∧ SqL K H a (D.map V.int) ∧ n ≤ 1000 ∧ D.Pairwise (· < ·) ∧ (∀ x ∈ D, 1 ≤ x ∧ x ≤ n) ∧ ∀ F, Brings n D F → RetL (F.map V.int) H Q
theorem ok_turners_for (F : Df K mg "turners_for" s_turners_for ["many", "doors"]) (B : Blt mg) (c_is_number : Cal P w K mg base CX0 1 "is_number" spNum) (c_asked_small : Cal P w K mg base CX0 1 "asked_small" spAskS) : Cal P w K mg base CX0 2 "turners_for" (spBring K) := by
  have sc : FnScope ["many", "doors", "one", "at", "due", "door", "found", "other"] ["many", "doors"] (defScope s_turners_for) := ⟨rfl, rfl, rfl, by decide +kernel, rfl, by decide +kernel, by decide +kernel⟩
  refine F.ok sc (fun vs H Q E h => ?_) (fun f cdv A outer s H vs Q E hr h => ?_)
  · obtain ⟨a, D, n, rfl, _⟩ := h
    rfl
  · obtain ⟨a, D, n, rfl, hS, hn, hD, hm, q⟩ := h
    have hl : D.length ≤ n := rise_len hD hm
    refine ⟨_, (pss_cons (ps_expr (pe_d c_asked_small hr (by decide) (by rfl) (pa_cons (pv 0) pa_nil)))
      (pss_cons (ps_if (PW.pt (pw_or (pt_not (pt_val (pe_callB call_isi (by rfl) B.isinstance_ boot_isinstance (pa_cons (pv 1) (pa_cons (pe_bltn (v := .ty "list") (by rfl) B.list_ boot_list rfl) pa_nil))))) (pw_or1 (pt_not (pt_val (pe_callB (cr_all rfl) (by rfl) B.all_ boot_all (pa_cons (pe_lc (own := [("one", 2)]) (g := (gName 2)) (by rfl) sc.nd (pi_list (pv 1)) (blkOk_by (own := [("one", 2)]) (N := ["many", "doors", "one", "at", "due", "door", "found", "other"]) (sc := defScope s_turners_for) (by decide +kernel)) (fun _ _ _ _ _ => (pg_name (i := 2) sc.nd rfl (by first | exact Or.inl rfl | exact Or.inr rfl))) (fun _ _ _ _ _ => pts_nil) (fun _ _ _ _ _ => (pe_and (pe_d c_is_number hr (by decide) (by rfl) (pa_cons (pv 2) pa_nil)) (pe_one (pe_cmpR op_le (pv 2) (pv 0) (nomark _)))))) pa_nil)))))))
      (pss_one ps_never) pss_nil)
      (pss_cons (ps_if (pt_val (pe_callB (cr_any rfl) (by rfl) B.any_ boot_any (pa_cons (pe_lc (own := [("at", 3)]) (g := (gName 3)) (by rfl) sc.nd (pi_range2 (by rfl) B.range_ (pa_cons pe_int (pa_cons (pe_callB call_len_s (by rfl) B.len_ boot_len (pa_cons (pv 1) pa_nil)) pa_nil))) (blkOk_by (own := [("at", 3)]) (N := ["many", "doors", "one", "at", "due", "door", "found", "other"]) (sc := defScope s_turners_for) (by decide +kernel)) (fun _ _ _ _ _ => (pg_name (i := 3) sc.nd rfl (by first | exact Or.inl rfl | exact Or.inr rfl))) (fun _ _ _ _ _ => pts_nil) (fun _ _ _ _ _ => (pe_cmpR op_ge (pe_ix (show IxR _ (rIxL K) from ix_list) (pv 1) (pe_op op_sub (pv 3) pe_int) (fun _ _ => rfl)) (pe_ix (show IxR _ (rIxL K) from ix_list) (pv 1) (pv 3) (fun _ _ => rfl)) (nomark _)))) pa_nil)))
      (pss_one ps_never) pss_nil)
      (pss_cons (ps_set (i := 4) sc.nd rfl (by first | exact Or.inl rfl | exact Or.inr rfl) (pe_op op_rep (pe_lst (pa_cons pe_bl pa_nil)) (pe_op op_add (pv 0) pe_int)))
      (pss_cons (ps_for PassesOwn.never rfl (pi_list (pv 1)) (pg_name (i := 5) sc.nd rfl (by first | exact Or.inl rfl | exact Or.inr rfl))
      (pss_one (ps_asg pe_bl (pg_sub (pv 4) (pv 5) set_list))))
      (pss_cons (ps_set (i := 6) sc.nd rfl (by first | exact Or.inl rfl | exact Or.inr rfl) (pe_lst pa_nil))
      (pss_cons (ps_for PassesOwn.never rfl (pi_range2 (by rfl) B.range_ (pa_cons pe_int (pa_cons (pe_op op_add (pv 0) pe_int) pa_nil))) (pg_name (i := 5) sc.nd rfl (by first | exact Or.inl rfl | exact Or.inr rfl))
      (pss_one (ps_if (pt_val (pe_ix ix_list (pv 4) (pv 5) (fun _ _ => rfl)))
      (pss_cons (ps_expr (pe_bm PySem.F.plainAttrs_list PySem.F.slot_list_append PySem.F.type_list_append mt_append (pv 6) (pa_cons (pv 5) pa_nil)))
      (pss_one (ps_for PassesOwn.never rfl (pi_range3 (by rfl) B.range_ (pa_cons (pv 5) (pa_cons (pe_op op_add (pv 0) pe_int) (pa_cons (pv 5) pa_nil)))) (pg_name (i := 7) sc.nd rfl (by first | exact Or.inl rfl | exact Or.inr rfl))
      (pss_one (ps_asg (pe_not (pe_ix ix_list (pv 4) (pv 7) (fun _ _ => rfl))) (pg_sub (pv 4) (pv 7) set_list)))))) pss_nil)))
      (pss_one (ps_ret (pv 6)))))))))), ?_⟩
    walk_at "go"
    refine ⟨n, rfl, by omega, by omega, ?_⟩
    walk_at "go"
    refine c_isiL hS ?_
    walk_at "go"
    refine el_lcL (K := K) (σ := [some (.int n), some (.ref a), none, none, none, none, none, none]) (fun _ => true) (fun i => V.bl true) (ev_var rfl) hS (by rw [List.length_map]; omega) (fun x => rfl) (fun i x H1 e hx => ?_) (fun i x H1 e hx _ => ?_) H (Ex.refl H) _ (fun p H2 hp e2 h2 => ?_)
    · exact fun H2 _ QB k => k H2 (Ex.refl H2)
    · obtain ⟨rfl, hi, _⟩ := getD_of hx
      have hx1 := hm _ (getD_mem hi)
      intro H2 e2 Q2 k
      walk_at "go"
      refine ⟨_, rfl, ?_⟩
      walk_at "go"
      refine w_t (decide_eq_true (by omega)) ?_
      walk_at "go"
      rw [decide_eq_true hx1.2]
      exact k H2 (Ex.refl H2)
    rw [List.length_map] at h2
    have h2' : H2 p = some (.lst ((List.replicate D.length true).map V.bl)) := by
      rw [h2, given_true D.length fun _ => true]
      rw [show (List.range D.length).map (fun _ => true) = List.replicate D.length true from by rw [List.map_const']; simp]
    walk_at "go"
    refine c_all (.inl (.inl h2')) ?_
    rw [show (List.replicate D.length true).all id = true from by simp]
    walk_at "go"
    refine el_lcR2 (σ := [some (.int n), some (.ref a), none, none, none, none, none, none]) (lo := 1) (hi := (D.length : Int)) (fun _ => true) (fun i => V.bl false) (fun H3 e3 Q3 k => ?_) (by omega) (by omega) (fun x => rfl) (fun i H3 e3 hi => ?_) (fun i H3 e3 hi _ => ?_) H2 (Ex.refl H2) _ (fun p3 H3 hp3 e3 h3 => ?_)
    · walk_at "go"
      refine c_len (ex_l (e2.trans e3) hS) ?_
      rw [List.length_map]
      walk_at "go"
      exact k H3 (Ex.refl H3)
    · exact fun H4 _ QB k => k H4 (Ex.refl H4)
    · intro H4 e4 Q4 k
      walk_at "go"
      refine ⟨a, _, _, _, rfl, rfl, ex_l ((e2.trans e3).trans e4) hS, atI_int (by omega) (by omega), ?_⟩
      walk_at "go"
      refine ⟨a, _, _, _, rfl, rfl, ex_l ((e2.trans e3).trans e4) hS, atI_int (by omega) (by omega), ?_⟩
      walk_at "go"
      have lt : D.getD (1 + (i : Int) - 1).toNat 0 < D.getD (1 + (i : Int)).toNat 0 := by
        have i1 : (1 + (i : Int) - 1).toNat = i := by omega
        have i2 : (1 + (i : Int)).toNat = i + 1 := by omega
        rw [i1, i2]
        have := List.pairwise_iff_getElem.mp hD i (i + 1) (by omega) (by omega) (by omega)
        rw [List.getD_eq_getElem?_getD, List.getD_eq_getElem?_getD, List.getElem?_eq_getElem (by omega), List.getElem?_eq_getElem (by omega)]
        exact this
      rw [decide_eq_false (by omega)]
      exact k H4 (Ex.refl H4)
    have h3' : H3 p3 = some (.lst ((List.replicate ((D.length : Int) - 1).toNat false).map V.bl)) := by
      rw [h3, given_true ((D.length : Int) - 1).toNat fun _ => false]
      rw [show (List.range ((D.length : Int) - 1).toNat).map (fun _ => false) = List.replicate ((D.length : Int) - 1).toNat false from by rw [List.map_const']; simp]
    walk_at "go"
    refine c_any (.inl (.inl h3')) ?_
    rw [show (List.replicate ((D.length : Int) - 1).toNat false).any id = false from by simp]
    have e03 : Ex H H3 := e2.trans e3
    clear h2 h2' h3 h3'
    walk_at "go"
    refine ⟨by show 1 ≤ sizeLine; decide, fun l1 n1 => ?_⟩
    walk_at "go"
    refine ⟨l1, _, _, rfl, rfl, upd_same, by omega, by omega, ?_, fun du ndu => ?_⟩
    · show 1 * ((n : Int) + 1).toNat ≤ sizeLine
      exact sz_of (by omega)
    rw [dueL_start]
    have e4 : Ex H (upd H3 l1 (.lst [.bl false])) := e03.trans (Ex.new n1)
    have ndu0 : H du = none := fresh_back e4 ndu
    have e5 : Ex H (upd (upd H3 l1 (.lst [.bl false])) du (.lst (dueL n fun _ => false))) := e4.trans (Ex.new ndu)
    have hdu : (upd (upd H3 l1 (.lst [.bl false])) du (.lst (dueL n fun _ => false))) du = some (.lst (dueL n fun _ => false)) := upd_same
    generalize upd (upd H3 l1 (.lst [.bl false])) du (.lst (dueL n fun _ => false)) = H5 at e5 hdu ⊢
    walk_at "go"
    refine ⟨a, rfl, ⟨_, ex_l e5 hS⟩, f_list (xs := D.map V.int) (fun i σ H' => ∃ y, σ = [some (.int n), some (.ref a), none, none, some (.ref du), y, none, none] ∧ Ex H H' ∧ H' du = some (.lst (dueL n fun d => decide (d ∈ D.take i))))
      ⟨none, rfl, e5, by rw [hdu]; simp⟩ (fun i σ H' _ h => by obtain ⟨_, _, e, _⟩ := h; exact ex_l e hS) (fun i x σ H6 hx h => ?_) (fun σ H6 h => ?_)⟩
    · obtain ⟨y, rfl, e6, h6⟩ := h
      obtain ⟨rfl, hi, hg⟩ := getD_of hx
      have hb := hm _ (getD_mem hi)
      have tk : D.take (i + 1) = D.take i ++ [D.getD i 0] := by rw [List.take_add_one, hg]; rfl
      generalize D.getD i 0 = d at hb tk
      obtain ⟨d, rfl⟩ := Int.eq_ofNat_of_zero_le (show 0 ≤ d by omega)
      walk_at "go"
      refine ⟨_, rfl, _, rfl, du, _, _, d, rfl, rfl, h6, ixN_nat (by rw [dueL_len]; omega), _, rfl, e6.mut ndu0, ?_⟩
      rw [upd_same, dueL_set (by omega), tk]
      congr 2
      refine dueL_congr fun z _ _ => ?_
      by_cases ez : z = (d : Int)
      · subst ez
        simp
      · simp [ez]
    obtain ⟨y, rfl, e6, h6⟩ := h
    rw [List.length_map, List.take_length] at h6
    walk_at "go"
    refine ⟨Nat.zero_le _, fun fo nfo => ?_⟩
    have nfo0 : H fo = none := fresh_back e6 nfo
    have hnd : du ≠ fo := fun z => by rw [z] at h6; rw [h6] at nfo; cases nfo
    have e7 : Ex H (upd H6 fo (.lst [])) := e6.trans (Ex.new nfo)
    have h7 : (upd H6 fo (.lst [])) du = some (.lst (dueL n fun d => decide (d ∈ D))) := by rw [upd_ne hnd]; exact h6
    have f7 : (upd H6 fo (.lst [])) fo = some (.lst (([] : List Int).map V.int)) := upd_same
    generalize upd H6 fo (.lst []) = H7 at e7 h7 f7 ⊢
    walk_at "go"
    refine ⟨1, (n : Int) + 1, rfl, by omega, ?_⟩
    rw [show ((n : Int) + 1 - 1).toNat = n by omega]
    refine f_range (fun i σ H' => ∃ y z, σ = [some (.int n), some (.ref a), none, none, some (.ref du), y, some (.ref fo), z] ∧ i ≤ n ∧ Ex H H' ∧ ∃ Fs Bs, H' du = some (.lst (dueL n Bs)) ∧ H' fo = some (.lst (Fs.map V.int)) ∧ Sv D n i Fs Bs)
      ⟨_, _, rfl, Nat.zero_le _, e7, [], _, h7, f7, Sv.start D n⟩ (fun i σ H8 hi h => ?_) (fun σ H8 h => ?_)
    · obtain ⟨y, z, rfl, _, e8, Fs, Bs, h8, f8, sv⟩ := h
      have lF : Fs.length ≤ i := rise_len sv.rise sv.rng
      walk_at "go"
      refine ⟨du, _, _, _, rfl, rfl, .inl (.inl h8), dueL_at (by omega) (by omega), ?_⟩
      walk_at "go"
      refine w_2 (fun hb => ?_) (fun hb => ?_)
      · walk_at "go"
        refine ⟨tyLl (.inl (.inl f8)), ?_⟩
        walk_at "go"
        refine c_app f8 (by rw [List.length_map]; omega) ?_
        have e9 : Ex H (upd H8 fo (.lst (Fs.map V.int ++ [.int (1 + (i : Int))]))) := e8.mut nfo0
        have h9 : (upd H8 fo (.lst (Fs.map V.int ++ [.int (1 + (i : Int))]))) du = some (.lst (dueL n Bs)) := by rw [upd_ne hnd]; exact h8
        have f9 : (upd H8 fo (.lst (Fs.map V.int ++ [.int (1 + (i : Int))]))) fo = some (.lst ((Fs ++ [1 + (i : Int)]).map V.int)) := by rw [upd_same, List.map_append]; rfl
        generalize upd H8 fo (.lst (Fs.map V.int ++ [.int (1 + (i : Int))])) = H9 at e9 h9 f9 ⊢
        have dpos : 1 ≤ 1 + (i : Int) := by omega
        walk_at "go"
        refine c_iR3 ?_
        walk_at "go"
        refine ⟨_, _, _, _, rfl, rgC_steps dpos (by omega) (by omega), ?_⟩
        generalize hd : 1 + (i : Int) = d at dpos f9
        refine for_rangeC (fun j σ H' => ∃ z, σ = [some (.int n), some (.ref a), none, none, some (.ref du), some (.int d), some (.ref fo), z] ∧ Ex H H' ∧ H' fo = some (.lst ((Fs ++ [d]).map V.int)) ∧ H' du = some (.lst (dueL n fun x => if x % d = 0 ∧ d ≤ x ∧ x < d + j * d then !Bs x else Bs x)))
          ⟨_, rfl, e9, f9, ?_⟩ (fun j σ Ha hj h => ?_) (fun σ Ha h => ?_)
        · rw [h9]
          congr 2
          refine dueL_congr fun x _ _ => ?_
          rw [if_neg (by omega)]
        · obtain ⟨z, rfl, ea, fa, ha⟩ := h
          have jd : (j : Int) + 1 ≤ (n : Int) / d := by omega
          have in1 : d + (j : Int) * d ≤ n := by
            have h1 : ((j : Int) + 1) * d ≤ (n : Int) / d * d := Int.mul_le_mul_of_nonneg_right jd (by omega)
            have h2 : (n : Int) / d * d ≤ n := Int.ediv_mul_le _ (by omega)
            rw [Int.add_mul, Int.one_mul] at h1
            omega
          have in0 : 0 ≤ (j : Int) * d := Int.mul_nonneg (by omega) (by omega)
          have md : (d + (j : Int) * d) % d = 0 := by rw [Int.add_mul_emod_self_right]; exact Int.emod_self
          walk_at "go"
          generalize hx : d + (j : Int) * d = x at in1 md ⊢
          refine ⟨du, _, _, _, rfl, rfl, .inl (.inl ha), dueL_at (by omega) (by omega), ?_⟩
          obtain ⟨k, rfl⟩ := Int.eq_ofNat_of_zero_le (show 0 ≤ x by omega)
          walk_at "go"
          refine ⟨_, rfl, _, rfl, du, _, _, k, rfl, rfl, ha, ixN_nat (by rw [dueL_len]; omega), _, rfl, ea.mut ndu0, ?_, ?_⟩
          · rw [upd_ne (Ne.symm hnd)]; exact fa
          · rw [upd_same, dueL_set (by omega)]
            congr 2
            refine dueL_congr fun y _ _ => ?_
            have ej : ((j + 1 : Nat) : Int) * d = (j : Int) * d + d := by rw [Int.natCast_add, Int.add_mul]; simp
            by_cases ez : y = (k : Int)
            · subst ez
              rw [if_pos rfl, if_neg (by omega), if_pos ⟨md, by omega, by rw [ej]; omega⟩]
            · rw [if_neg ez]
              by_cases c1 : y % d = 0 ∧ d ≤ y ∧ y < d + (j : Int) * d
              · rw [if_pos c1, if_pos ⟨c1.1, c1.2.1, by rw [ej]; omega⟩]
              · rw [if_neg c1, if_neg]
                rintro ⟨c2, c3, c4⟩
                refine c1 ⟨c2, c3, ?_⟩
                rw [ej] at c4
                obtain ⟨u, hu⟩ := Int.dvd_of_emod_eq_zero c2
                obtain ⟨v, hv⟩ := Int.dvd_of_emod_eq_zero md
                have : u < v + 1 := by
                  by_cases hh : u < v + 1
                  · exact hh
                  · have : d * (v + 1) ≤ d * u := Int.mul_le_mul_of_nonneg_left (by omega) (by omega)
                    rw [Int.mul_add, Int.mul_one] at this
                    omega
                have uv : u ≠ v := fun z => ez (by rw [hu, hv, z])
                have : d * (u + 1) ≤ d * v := Int.mul_le_mul_of_nonneg_left (by omega) (by omega)
                rw [Int.mul_add, Int.mul_one] at this
                omega
        · obtain ⟨z, rfl, ea, fa, ha⟩ := h
          walk_at "go"
          refine ⟨_, _, rfl, hi, ea, _, _, ha, fa, ?_⟩
          have p := sv.put hi hb
          rw [hd] at p
          refine p.congr hi fun x h1 h2 => ?_
          by_cases g : x % d = 0
          · rw [if_pos g, if_pos]
            have le := le_of_goes (by omega) g
            refine ⟨g, le, ?_⟩
            have e1 : ((n : Int) / d).toNat = (n : Int) / d := Int.toNat_of_nonneg (Int.ediv_nonneg (by omega) (by omega))
            rw [e1]
            have := Int.lt_ediv_add_one_mul_self (n : Int) (show 0 < d by omega)
            rw [Int.add_mul, Int.one_mul] at this
            omega
          · rw [if_neg g, if_neg fun z => g z.1]
      · walk_at "go"
        exact ⟨_, _, rfl, hi, e8, Fs, Bs, h8, f8, sv.skip hi hb⟩
    · obtain ⟨y, z, rfl, _, e8, Fs, Bs, h8, f8, sv⟩ := h
      walk_at "go"
      exact q Fs ⟨sv.rise, sv.rng, opens_eq hD hm sv.done⟩ fo H8 nfo0 e8 f8
end
theorem c_lc {σ : L2.St} {H : Hp} {Q : VK} {wi : TI} {g : TG} {tt : TT} {te : TE} {vs : List Nat} (k : wi σ H fun J H1 => ∀ D, H1 D = none → ∃ W : Nat → Nat → Hp → Prop, (∃ m, W 0 m (upd H1 D (.lst []))) ∧ ∀ i m H, W i m H →
    (J.stop i H ∧ Q (.ref D) H) ∨ (J.go i H ∧ ∃ Nx : Hp → Prop, (∀ H', Nx H' → ∃ m', m' < m ∧ W (i + 1) m' H') ∧ ∀ x H', J.yld i H x H' → g x (wipe σ vs) H' fun σ2 H2 => wipe σ2 vs = wipe σ vs ∧ tt σ2 H2 fun b H3 =>
      if b = true then te σ2 H3 fun y H4 => ∃ acc, H4 D = some (.lst acc) ∧ acc.length < sizeLine ∧ Nx (upd H4 D (.lst (acc ++ [y]))) else Nx H3)) : tLc wi g tt te vs σ H Q := k
theorem brings_uniq {n : Nat} {D F G : List Int} (h : Brings n D F) (h' : Brings n D G) : F = G :=
  same_rows h.rise h'.rise h.rng h'.rng fun d h1 h2 => by
    have e := h.opens.trans h'.opens.symm
    have m : d ∈ opens F n ↔ d ∈ opens G n := by rw [e]
    rw [mem_opens, mem_opens] at m
    rw [Bool.eq_iff_iff]
    exact ⟨fun z => (m.mp ⟨⟨h1, h2⟩, z⟩).2, fun z => (m.mpr ⟨⟨h1, h2⟩, z⟩).2⟩
def bringsB (n : Nat) (D F : List Int) : Bool := decide (F.Pairwise (· < ·)) && (F.all fun x => decide (1 ≤ x ∧ x ≤ n)) && decide (opens F n = D)
theorem brings_by {n : Nat} {D F : List Int} (h : bringsB n D F = true) : Brings n D F := by
  unfold bringsB at h
  rw [Bool.and_eq_true, Bool.and_eq_true] at h
  exact ⟨of_decide_eq_true h.1.1, fun x hx => of_decide_eq_true (List.all_eq_true.mp h.1.2 x hx), of_decide_eq_true h.2⟩
abbrev s_compared : Stmt := topS 38
abbrev s_Same_shows : Stmt := inClass (topS 33) 0
abbrev s_Unlike___init__ : Stmt := inClass (topS 34) 0
abbrev s_Unlike_shows : Stmt := inClass (topS 34) 1
/-! ### kept, of every row -/
theorem kept_ex (ts : List Int) : ∃ ks, IsKept ts ks := by
  have srt : (ts.mergeSort (fun a b => decide (a ≤ b))).Pairwise (fun a b => decide (a ≤ b) = true) := List.pairwise_mergeSort (fun a b c h1 h2 => by simp at h1 h2 ⊢; omega) (fun a b => by simp; omega) ts
  have prm : (ts.mergeSort (fun a b => decide (a ≤ b))).Perm ts := List.mergeSort_perm ts _
  generalize ts.mergeSort (fun a b => decide (a ≤ b)) = so at srt prm
  have key : ∀ i : Nat, i ≤ so.length → ∃ f, IsKept (so.take i) f := by
    intro i
    induction i with
    | zero => intro _; exact ⟨[], by rw [List.take_zero]; exact kept_nil⟩
    | succ i ih =>
      intro hi
      obtain ⟨f, hf⟩ := ih (by omega)
      have tk : so.take (i + 1) = so.take i ++ [so[i]] := by rw [List.take_add_one, List.getElem?_eq_getElem (by omega)]; rfl
      rw [tk]
      by_cases hl : f.getLast? = some so[i]
      · obtain ⟨g, rfl⟩ : ∃ g, f = g ++ [so[i]] := by
          obtain ⟨g, hg⟩ := List.getLast?_eq_some_iff.mp hl
          exact ⟨g, hg⟩
        exact ⟨g, kept_pop hf⟩
      · refine ⟨_, kept_push hf (fun x hx => ?_) hl⟩
        obtain ⟨j, hj, e⟩ := List.getElem_of_mem hx
        rw [List.length_take] at hj
        rw [List.getElem_take] at e
        have := List.pairwise_iff_getElem.mp srt j i (by omega) (by omega) (by omega)
        rw [e] at this
        exact of_decide_eq_true this
  obtain ⟨f, hf⟩ := key so.length (Nat.le_refl _)
  rw [List.take_length] at hf
  exact ⟨f, kept_perm hf prm⟩
theorem at_head (k : Int) (r : List Int) : atI ((k :: r).map V.int) 0 = some (.int k) := atI_int (cs := k :: r) (ix := 0) (by decide) (by rw [List.length_cons]; omega)
/-! ### answers -/
/-- an answer's object: none: that they are the same; some d: the door d -/
def insO (CS CU dx : Addr) : Option Int → HO
  | none => .ins CS dx []
  | some d => .ins CU dx [("door", .int d)]
/-- what an answer's word is due to be -/
def said : Option Int → List Int → Bool
  | none, ks => decide (ks = [])
  | some d, ks => decide (ks.head? = some d)
theorem said_own (ks : List Int) : said ks.head? ks = true := by
  cases ks with
  | nil => rfl
  | cons k r => show decide (some k = some k) = true; simp
/-- the classes of the text -/
structure Own (K : PySem.W.Frag) (mg : Str → Option Value) (CA CS CU : Addr) : Prop where
  gA : mg "Answer" = some (.ref CA)
  gS : mg "Same" = some (.ref CS)
  gU : mg "Unlike" = some (.ref CU)
  clS : Cls K CS
  clU : Cls K CU
  m0 : Mk0 K CS
  noD : NoAttr K CU "door"
  acS : PySem.W.findIn K (.ref CS) "__class__" = some (some (.builtin "object.__class__"))
  acU : PySem.W.findIn K (.ref CU) "__class__" = some (some (.builtin "object.__class__"))
  hn : PySem.W.specialIn K (.builtin "object.__class__") "__get__" = some (some (.builtin "getset_descriptor.__get__"))
  htk : PySem.W.takesIn K (.builtin "object.__class__") = some true
  mU : PySem.W.mroIn K CU (.type "object") = some true
  kSA : PySem.W.kitOne K (.ref CS) (.ref CA) = some true
  kSS : PySem.W.kitOne K (.ref CS) (.ref CS) = some true
  kSU : PySem.W.kitOne K (.ref CS) (.ref CU) = some false
  kUA : PySem.W.kitOne K (.ref CU) (.ref CA) = some true
  kUS : PySem.W.kitOne K (.ref CU) (.ref CS) = some false
  kUU : PySem.W.kitOne K (.ref CU) (.ref CU) = some true
section
variable {P : Program} {w : World} {K : PySem.W.Frag} {mg : Str → Option Value} {base : Heap} {CA CS CU : Addr}
theorem Own.isA (O : Own K mg CA CS CU) {H : Hp} {Q : VK} {p dx : Addr} {A : Option Int} (h : H p = some (insO CS CU dx A)) (k : Q (.bl true) H) : rIsi K [.ref p, .ref CA] H Q := by
  cases A with
  | none => exact ⟨_, _, _, _, _, rfl, .own CA, .base (.ins h O.clS O.acS O.hn O.htk O.m0.top), O.kSA, k⟩
  | some d => exact ⟨_, _, _, _, _, rfl, .own CA, .base (.ins h O.clU O.acU O.hn O.htk O.mU), O.kUA, k⟩
theorem Own.isS (O : Own K mg CA CS CU) {H : Hp} {Q : VK} {p dx : Addr} {A : Option Int} (h : H p = some (insO CS CU dx A)) (k : Q (.bl A.isNone) H) : rIsi K [.ref p, .ref CS] H Q := by
  cases A with
  | none => exact ⟨_, _, _, _, _, rfl, .own CS, .base (.ins h O.clS O.acS O.hn O.htk O.m0.top), O.kSS, k⟩
  | some d => exact ⟨_, _, _, _, _, rfl, .own CS, .base (.ins h O.clU O.acU O.hn O.htk O.mU), O.kUS, k⟩
theorem Own.isU (O : Own K mg CA CS CU) {H : Hp} {Q : VK} {p dx : Addr} {A : Option Int} (h : H p = some (insO CS CU dx A)) (k : Q (.bl A.isSome) H) : rIsi K [.ref p, .ref CU] H Q := by
  cases A with
  | none => exact ⟨_, _, _, _, _, rfl, .own CU, .base (.ins h O.clS O.acS O.hn O.htk O.m0.top), O.kSU, k⟩
  | some d => exact ⟨_, _, _, _, _, rfl, .own CU, .base (.ins h O.clU O.acU O.hn O.htk O.mU), O.kUU, k⟩
/-- an answer's own word, asked of two rows -/
def spShows (K : PySem.W.Frag) (CS CU : Addr) (un : Bool) : Sp := fun vs H Q _ => ∃ (p dx a b : Addr) (A : Option Int) (ts us : List Int), vs = [.ref p, .ref a, .ref b] ∧ A.isSome = un ∧ H p = some (insO CS CU dx A) ∧ H a = some (.lst (ts.map V.int)) ∧ H b = some (.lst (us.map V.int)) ∧ ts.length ≤ 100 ∧ us.length ≤ 100 ∧
  ∀ ks, IsKept (ts ++ us) ks → RetV (.bl (said A ks)) H Q
theorem ok_Same_shows (F : DfM K CS "shows" "Same.shows" s_Same_shows ["self", "one", "other"]) (c_left_over : Cal P w K mg base CX0 1 "left_over" (spLeft K)) : MetC P w K mg base 2 CS "shows" (spShows K CS CU false) := by
  have sc : FnScope ["self", "one", "other"] ["self", "one", "other"] (defScope s_Same_shows) := ⟨rfl, rfl, rfl, by decide +kernel, rfl, by decide +kernel, by decide +kernel⟩
  refine F.ok sc (fun vs H Q E h => ?_) (fun f cdv A outer s H vs Q E hr h => ?_)
  · obtain ⟨p, dx, a, b, A, ts, us, rfl, _⟩ := h
    rfl
  · obtain ⟨p, dx, a, b, An, ts, us, rfl, hA, hp, ha, hb, l1, l2, q⟩ := h
    cases An with
    | some d => cases hA
    | none =>
      refine ⟨_, (pss_one (ps_ret (pe_cmpR (op_eqD hr.units) (pe_d c_left_over hr (by decide) (by rfl) (pa_cons (pv 1) pa_nil)) (pe_d c_left_over hr (by decide) (by rfl) (pa_cons (pv 2) pa_nil)) (nomark _)))), ?_⟩
      walk_at "gm"
      refine ⟨a, ts, rfl, .inl (.inl ha), by omega, fun k1 hk1 p1 H1 n1 e1 h1 => ?_⟩
      walk_at "gm"
      refine ⟨b, us, rfl, .inl (.inl (e1 _ _ hb)), by omega, fun k2 hk2 p2 H2 n2 e2 h2 => ?_⟩
      walk_at "gm"
      refine c_eqL (.inl (.inl (e2 _ _ h1))) (.inl (.inl h2)) ?_
      obtain ⟨k3, hk3⟩ := kept_ex (ts ++ us)
      have z := q k3 hk3 H2 (e1.trans e2)
      have e : said none k3 = decide (k1 = k2) := by
        show decide (k3 = []) = decide (k1 = k2)
        rw [Bool.eq_iff_iff]
        simp [kept_app hk1 hk2 hk3]
      rw [e] at z
      exact z
def spInit (CU : Addr) : Sp := fun vs H Q _ => ∃ (x dx : Addr) (v : V), vs = [.ref x, v] ∧ H x = some (.ins CU dx []) ∧ Q .non (upd H x (.ins CU dx [("door", v)]))
theorem ok_Unlike___init__ (O : Own K mg CA CS CU) (F : DfI K mg "Unlike" CU "Unlike.__init__" s_Unlike___init__ ["self", "door"]) : MakC P w K mg base 1 "Unlike" CU (spInit CU) := by
  have sc : FnScope ["self", "door"] ["self", "door"] (defScope s_Unlike___init__) := ⟨rfl, rfl, rfl, by decide +kernel, rfl, by decide +kernel, by decide +kernel⟩
  refine F.ok sc (fun vs H Q E h => ?_) (fun f cdv A outer s H vs Q E hr h => ?_)
  · obtain ⟨x, dx, v, rfl, _⟩ := h
    rfl
  · obtain ⟨x, dx, v, rfl, hx, q⟩ := h
    refine ⟨_, (pss_one (ps_fld (pv 0) (pv 1) rfl)), ?_⟩
    exact ⟨v, rfl, _, rfl, x, CU, dx, [], rfl, hx, O.clU, O.noD, by decide, q⟩
theorem ok_Unlike_shows (O : Own K mg CA CS CU) (F : DfM K CU "shows" "Unlike.shows" s_Unlike_shows ["self", "one", "other"]) (c_left_over : Cal P w K mg base CX0 1 "left_over" (spLeft K)) : MetC P w K mg base 2 CU "shows" (spShows K CS CU true) := by
  have sc : FnScope ["self", "one", "other", "apart"] ["self", "one", "other"] (defScope s_Unlike_shows) := ⟨rfl, rfl, rfl, by decide +kernel, rfl, by decide +kernel, by decide +kernel⟩
  refine F.ok sc (fun vs H Q E h => ?_) (fun f cdv A outer s H vs Q E hr h => ?_)
  · obtain ⟨p, dx, a, b, A, ts, us, rfl, _⟩ := h
    rfl
  · obtain ⟨p, dx, a, b, An, ts, us, rfl, hA, hp, ha, hb, l1, l2, q⟩ := h
    cases An with
    | none => cases hA
    | some d =>
      refine ⟨_, (pss_cons (ps_set (i := 3) sc.nd rfl (by first | exact Or.inl rfl | exact Or.inr rfl) (pe_d c_left_over hr (by decide) (by rfl) (pa_cons (pe_op op_cat (pv 1) (pv 2)) pa_nil)))
      (pss_one (ps_ret (pe_and (pe_cmpR (op_neD hr.units) (pv 3) (pe_lst pa_nil) (nomark _)) (pe_one (pe_cmpR op_eq (pe_fld (pv 0) rfl) (pe_ix ix_list (pv 3) pe_int (fun _ _ => rfl)) (nomark _))))))), ?_⟩
      walk_at "gm"
      refine c_cat ha hb (by rw [List.length_map, List.length_map]; omega) fun l nl => ?_
      have e1 : Ex H (upd H l (.lst (ts.map V.int ++ us.map V.int))) := Ex.new nl
      walk_at "gm"
      refine ⟨l, ts ++ us, rfl, .inl (.inl (by rw [upd_same, List.map_append])), by rw [List.length_append]; omega, fun ks hk ap H2 nap e2 hap => ?_⟩
      have z := q ks hk
      walk_at "gm"
      refine ⟨Nat.zero_le _, fun m nm => ?_⟩
      have e3 : Ex H2 (upd H2 m (.lst [])) := Ex.new nm
      refine c_neL (xs := ks) (ys := []) (.inl (.inl (e3 _ _ hap))) (.inl (.inl upd_same)) ?_
      generalize upd H2 m (.lst []) = H3 at e3 ⊢
      have e13 := (e1.trans e2).trans e3
      walk_at "gm"
      cases ks with
      | nil => exact z H3 e13
      | cons k r =>
        refine w_t (by simp) ?_
        walk_at "gm"
        refine ⟨p, CU, dx, _, .int d, rfl, e13 _ _ hp, O.clU, O.noD, rfl, ?_⟩
        walk_at "gm"
        refine ⟨ap, _, _, .int k, rfl, rfl, .inl (.inl (e3 _ _ hap)), at_head k r, ?_⟩
        refine c_eqI ?_
        have e : said (some d) (k :: r) = decide (d = k) := by
          show decide (some k = some d) = decide (d = k)
          rw [Bool.eq_iff_iff]
          simp
          exact eq_comm
        have z2 := z H3 e13
        rw [e] at z2
        exact z2
/-- compared: the answer of its class -/
def spComp (K : PySem.W.Frag) (CS CU : Addr) : Sp := fun vs H Q _ => ∃ (a b : Addr) (ts us : List Int), vs = [.ref a, .ref b] ∧ H a = some (.lst (ts.map V.int)) ∧ H b = some (.lst (us.map V.int)) ∧ Good ts ∧ Good us ∧
  ∀ ks, IsKept (ts ++ us) ks → ∀ p dx H2, H p = none → Ex H H2 → H2 p = some (insO CS CU dx ks.head?) → Q (.ref p) H2
theorem ok_compared (O : Own K mg CA CS CU) (F : Df K mg "compared" s_compared ["one", "other"]) (c_asked_turners : Cal P w K mg base CX0 2 "asked_turners" (spAskT K)) (c_left_over : Cal P w K mg base CX0 1 "left_over" (spLeft K))
    (mk_Unlike : MakC P w K mg base 1 "Unlike" CU (spInit CU)) : Cal P w K mg base CX0 3 "compared" (spComp K CS CU) := by
  have m0_Same := O.m0
  have gC_Same := O.gS
  have sc : FnScope ["one", "other", "apart"] ["one", "other"] (defScope s_compared) := ⟨rfl, rfl, rfl, by decide +kernel, rfl, by decide +kernel, by decide +kernel⟩
  refine F.ok sc (fun vs H Q E h => ?_) (fun f cdv A outer s H vs Q E hr h => ?_)
  · obtain ⟨a, b, ts, us, rfl, _⟩ := h
    rfl
  · obtain ⟨a, b, ts, us, rfl, ha, hb, g1, g2, q⟩ := h
    have l1 := g1.len
    have l2 := g2.len
    refine ⟨_, (pss_cons (ps_expr (pe_d c_asked_turners hr (by decide) (by rfl) (pa_cons (pv 0) pa_nil)))
      (pss_cons (ps_expr (pe_d c_asked_turners hr (by decide) (by rfl) (pa_cons (pv 1) pa_nil)))
      (pss_cons (ps_set (i := 2) sc.nd rfl (by first | exact Or.inl rfl | exact Or.inr rfl) (pe_d c_left_over hr (by decide) (by rfl) (pa_cons (pe_op op_cat (pv 0) (pv 1)) pa_nil)))
      (pss_one (ps_ret (pe_ifExp (pt_cmpR (op_eqD hr.units) (pv 2) (pe_lst pa_nil) (nomark _)) (pe_make00 m0_Same (by rfl) gC_Same) (pe_mkc mk_Unlike hr (by decide) (by rfl) (pa_cons (pe_ix ix_list (pv 2) pe_int (fun _ _ => rfl)) pa_nil)))))))), ?_⟩
    walk_at "gm"
    refine ⟨a, ts, rfl, .inl (.inl ha), g1, fun H1 e1 => ?_⟩
    walk_at "gm"
    refine ⟨b, us, rfl, .inl (.inl (e1 _ _ hb)), g2, fun H2 e2 => ?_⟩
    have e12 := e1.trans e2
    walk_at "gm"
    refine c_cat (e12 _ _ ha) (e12 _ _ hb) (by rw [List.length_map, List.length_map]; omega) fun l nl => ?_
    have e3 : Ex H (upd H2 l (.lst (ts.map V.int ++ us.map V.int))) := e12.trans (Ex.new nl)
    walk_at "gm"
    refine ⟨l, ts ++ us, rfl, .inl (.inl (by rw [upd_same, List.map_append])), by rw [List.length_append]; omega, fun ks hk ap H4 nap e4 hap => ?_⟩
    have z := q ks hk
    walk_at "gm"
    refine ⟨Nat.zero_le _, fun m nm => ?_⟩
    have e5 : Ex H4 (upd H4 m (.lst [])) := Ex.new nm
    refine c_eqL (xs := ks) (ys := []) (.inl (.inl (e5 _ _ hap))) (.inl (.inl upd_same)) ?_
    generalize upd H4 m (.lst []) = H5 at e5 ⊢
    have e15 := (e3.trans e4).trans e5
    walk_at "gm"
    cases ks with
    | nil =>
      refine w_t (by simp) ?_
      walk_at "gm"
      intro x dx nx ndx ne
      have nx2 : (upd H5 dx (.own x)) x = none := by rw [upd_ne (Ne.symm ne)]; exact nx
      exact z x dx _ (fresh_back e15 nx) ((e15.trans (Ex.new ndx)).trans (Ex.new nx2)) upd_same
    | cons k r =>
      refine w_f (by simp) ?_
      walk_at "gm"
      refine ⟨ap, _, _, .int k, rfl, rfl, .inl (.inl (e5 _ _ hap)), at_head k r, ?_⟩
      walk_at "gm"
      intro x dx nx ndx ne
      have nx2 : (upd H5 dx (.own x)) x = none := by rw [upd_ne (Ne.symm ne)]; exact nx
      have e6 : Ex H (upd (upd H5 dx (.own x)) x (.ins CU dx [])) := (e15.trans (Ex.new ndx)).trans (Ex.new nx2)
      exact ⟨x, dx, .int k, rfl, upd_same, rfl, z x dx _ (fresh_back e15 nx) (e6.mut (fresh_back e15 nx)) upd_same⟩
end
section
variable {P : Program} {w : World} {K : PySem.W.Frag} {mg : Str → Option Value} {base : Heap} {CA CS CU : Addr}
/-- one of two methods, by the answer -/
theorem shows_at {σ : L2.St} {H1 : Hp} {p dx : Addr} {A : Option Int} {t : TA} {Q : VK} (h : H1 p = some (insO CS CU dx A)) (ht : ∀ un, A.isSome = un → t σ H1 fun vs H2 => spShows K CS CU un (.ref p :: vs) H2 Q E0) :
    ∃ a B dx fs, V.ref p = .ref a ∧ H1 a = some (.ins B dx fs) ∧ fs.lookup ("shows" : Str) = none ∧ ((B = CS ∧ t σ H1 fun vs H2 => spShows K CS CU false (.ref p :: vs) H2 Q E0) ∨ (B = CU ∧ t σ H1 fun vs H2 => spShows K CS CU true (.ref p :: vs) H2 Q E0)) := by
  cases A with
  | none => exact ⟨p, CS, dx, [], rfl, h, rfl, .inl ⟨rfl, ht _ rfl⟩⟩
  | some d => exact ⟨p, CU, dx, _, rfl, h, by rfl, .inr ⟨rfl, ht _ rfl⟩⟩
theorem c_unlike {CS CU : Addr} {H : Hp} {d : Int} {R : Addr → Hp → Prop} (k : ∀ x dx H', H x = none → Ex H H' → H' x = some (insO CS CU dx (some d)) → R x H') :
    ∀ x dx, H x = none → H dx = none → dx ≠ x → spInit CU (.ref x :: ([.int d] ++ [])) (upd (upd H dx (.own x)) x (.ins CU dx [])) (fun v H2 => v = .non ∧ R x H2) E0 := fun x dx nx ndx ne => by
  have nx2 : (upd H dx (.own x)) x = none := by rw [upd_ne (Ne.symm ne)]; exact nx
  have e6 : Ex H (upd (upd H dx (.own x)) x (.ins CU dx [])) := (Ex.new ndx).trans (Ex.new nx2)
  exact ⟨x, dx, .int d, rfl, upd_same, rfl, k x dx _ nx (e6.mut nx) upd_same⟩
end
section
variable {P : Program} {w : World} {K : PySem.W.Frag} {mg : Str → Option Value} {base : Heap} {CD : Addr}
/-! ### refusals -/
def Er (E : XK) (H : Hp) (C : Addr) : Prop := ∀ H', Ex H H' → E (.ref C) none H'
/-- is_number, of any thing -/
def spNumG (K : PySem.W.Frag) : Sp := fun vs H Q _ => ∃ v, vs = [v] ∧ Pl K H v ∧ Q (.bl (isN v)) H
theorem ok_is_numberG (F : Df K mg "is_number" s_is_number ["thing"]) (B : Blt mg) : Cal P w K mg base CX0 1 "is_number" (spNumG K) := by
  have sc : FnScope ["thing"] ["thing"] (defScope s_is_number) := ⟨rfl, rfl, rfl, by decide +kernel, rfl, by decide +kernel, by decide +kernel⟩
  refine F.ok sc (fun vs H Q E h => ?_) (fun f cdv A outer s H vs Q E hr h => ?_)
  · obtain ⟨v, rfl, _⟩ := h
    rfl
  · obtain ⟨v, rfl, nb, q⟩ := h
    refine ⟨_, (pss_one (ps_ret (pe_and (pe_callB call_isi (by rfl) B.isinstance_ boot_isinstance (pa_cons (pv 0) (pa_cons (pe_bltn (v := .ty "int") (by rfl) B.int_ boot_int rfl) pa_nil))) (pe_and (pe_not (pe_callB call_isi (by rfl) B.isinstance_ boot_isinstance (pa_cons (pv 0) (pa_cons (pe_bltn (v := .ty "bool") (by rfl) B.bool_ boot_bool rfl) pa_nil)))) (pe_one (pe_cmpR op_gt (pv 0) pe_int (nomark _))))))), ?_⟩
    rcases nb with ⟨n, rfl, _⟩ | ⟨b, rfl⟩ | nk
    · walk_at "go"
      exact q
    · walk_at "go"
      refine c_isi (.base (.bl b)) k_bi ?_
      walk_at "go"
      exact q
    · rw [isN_no nk] at q
      obtain ⟨T, ty, kt⟩ := nk
      walk_at "go"
      refine c_isi ty kt ?_
      walk_at "go"
      exact q
/-- asked_turners refuses -/
def spXT (K : PySem.W.Frag) (C : Addr) : Sp := fun vs H _ E => ∃ v, vs = [v] ∧ NotT K H v ∧ Er E H C
theorem x_asked_turners_bad {C : Addr} (F : Df K mg "asked_turners" s_asked_turners ["turners"]) (B : Blt mg) (g_MOST : ∃ t, mg "MOST" = some (.int 40 t)) (e_BadTurners : ErrC K mg "BadTurners" C CD) (c_is_number : Cal P w K mg base CX0 1 "is_number" (spNumG K)) : CalX P w K mg base 2 "asked_turners" (spXT K C) := by
  obtain ⟨tm, g_MOST⟩ := g_MOST
  have sc : FnScope ["turners", "one"] ["turners"] (defScope s_asked_turners) := ⟨rfl, rfl, rfl, by decide +kernel, rfl, by decide +kernel, by decide +kernel⟩
  refine F.okX sc (fun vs H Q E h => ?_) (fun f cdv A outer s H vs Q E hr h => ?_)
  · obtain ⟨v, rfl, _⟩ := h
    rfl
  · obtain ⟨v, rfl, nt, q⟩ := h
    refine ⟨_, (pss_one (ps_if (PW.pt (pw_or (pt_not (pt_val (pe_callB call_isi (by rfl) B.isinstance_ boot_isinstance (pa_cons (pv 0) (pa_cons (pe_bltn (v := .ty "list") (by rfl) B.list_ boot_list rfl) pa_nil))))) (pw_or (pt_cmpR op_gt (pe_callB call_len_s (by rfl) B.len_ boot_len (pa_cons (pv 0) pa_nil)) (pe_glob (v := .int 40) (by rfl) g_MOST ⟨_, rfl⟩) (nomark _)) (pw_or1 (pt_not (pt_val (pe_callB (cr_all rfl) (by rfl) B.all_ boot_all (pa_cons (pe_lc (own := [("one", 1)]) (g := (gName 1)) (by rfl) sc.nd (pi_list (pv 0)) (blkOk_by (own := [("one", 1)]) (N := ["turners", "one"]) (sc := defScope s_asked_turners) (by decide +kernel)) (fun _ _ _ _ _ => (pg_name (i := 1) sc.nd rfl (by first | exact Or.inl rfl | exact Or.inr rfl))) (fun _ _ _ _ _ => pts_nil) (fun _ _ _ _ _ => (pe_d c_is_number hr (by decide) (by rfl) (pa_cons (pv 1) pa_nil)))) pa_nil))))))))
      (pss_one (ps_refuse rfl (L2N.takes_of rfl rfl rfl rfl) e_BadTurners (by rfl))) pss_nil)), ?_⟩
    rcases nt with ⟨T, ty, kt⟩ | ⟨a, vs, rfl, hS, h⟩
    · walk_at "gx"
      refine c_isi ty kt ?_
      walk_at "gx"
      exact q H (Ex.refl H)
    · walk_at "gx"
      refine c_isiL hS ?_
      walk_at "gx"
      refine c_len hS ?_
      walk_at "gx"
      rcases h with h | ⟨h1, h2, h3⟩
      · refine w_t (decide_eq_true (by omega)) ?_
        walk_at "gx"
        exact q H (Ex.refl H)
      · refine w_f (decide_eq_false (by omega)) ?_
        walk_at "gx"
        refine el_lcL (K := K) (σ := [some (.ref a), none]) (fun _ => true) (fun i => V.bl (isN (vs.getD i .non))) (ev_var rfl) hS (by omega) (fun x => rfl) (fun i x H1 e hx => ?_) (fun i x H1 e hx _ => ?_) H (Ex.refl H) _ (fun p H2 hp e2 h2' => ?_)
        · exact fun H2 _ QB k => k H2 (Ex.refl H2)
        · obtain ⟨ex, hm⟩ := getD_at hx
          rw [ex]
          intro H2 e2 Q2 k
          walk_at "go"
          exact ⟨_, rfl, (h2 x hm).ext (ext_of (e.trans e2)), k H2 (Ex.refl H2)⟩
        · rw [given_vals vs isN] at h2'
          walk_at "gx"
          refine c_all (.inl (.inl h2')) ?_
          rw [all_bad h3]
          walk_at "gx"
          exact q H2 e2
/-- asked_door refuses -/
def spXI (K : PySem.W.Frag) (p : Int → Prop) (C : Addr) : Sp := fun vs H _ E => ∃ v, vs = [v] ∧ NotI K p H v ∧ Er E H C
abbrev noDoor (n : Int) : Prop := n ≤ 0
abbrev noSmall (n : Int) : Prop := n < 0 ∨ 1000 < n
abbrev noCount (n : Int) : Prop := n < 0
theorem x_asked_door_bad {C : Addr} (F : Df K mg "asked_door" s_asked_door ["door"]) (e_BadDoor : ErrC K mg "BadDoor" C CD) (c_is_number : Cal P w K mg base CX0 1 "is_number" (spNumG K)) : CalX P w K mg base 2 "asked_door" (spXI K noDoor C) := by
  have sc : FnScope ["door"] ["door"] (defScope s_asked_door) := ⟨rfl, rfl, rfl, by decide +kernel, rfl, by decide +kernel, by decide +kernel⟩
  refine F.okX sc (fun vs H Q E h => ?_) (fun f cdv A outer s H vs Q E hr h => ?_)
  · obtain ⟨v, rfl, _⟩ := h
    rfl
  · obtain ⟨v, rfl, nt, q⟩ := h
    refine ⟨_, (pss_one (ps_if (pt_not (pt_val (pe_d c_is_number hr (by decide) (by rfl) (pa_cons (pv 0) pa_nil))))
      (pss_one (ps_refuse rfl (L2N.takes_of rfl rfl rfl rfl) e_BadDoor (by rfl))) pss_nil)), ?_⟩
    walk_at "gx"
    refine ⟨v, rfl, nt.imp fun _ _ => trivial, ?_⟩
    rw [isN_bad nt]
    walk_at "gx"
    exact q H (Ex.refl H)
theorem x_asked_small_bad {C : Addr} (F : Df K mg "asked_small" s_asked_small ["many"]) (B : Blt mg) (g_SMALL : ∃ t, mg "SMALL" = some (.int 1000 t)) (e_BadCount : ErrC K mg "BadCount" C CD) : CalX P w K mg base 1 "asked_small" (spXI K noSmall C) := by
  obtain ⟨tm, g_SMALL⟩ := g_SMALL
  have sc : FnScope ["many"] ["many"] (defScope s_asked_small) := ⟨rfl, rfl, rfl, by decide +kernel, rfl, by decide +kernel, by decide +kernel⟩
  refine F.okX sc (fun vs H Q E h => ?_) (fun f cdv A outer s H vs Q E hr h => ?_)
  · obtain ⟨v, rfl, _⟩ := h
    rfl
  · obtain ⟨v, rfl, nt, q⟩ := h
    refine ⟨_, (pss_one (ps_if (PW.pt (pw_or (pt_not (pt_val (pe_callB call_isi (by rfl) B.isinstance_ boot_isinstance (pa_cons (pv 0) (pa_cons (pe_bltn (v := .ty "int") (by rfl) B.int_ boot_int rfl) pa_nil))))) (pw_or (pt_val (pe_callB call_isi (by rfl) B.isinstance_ boot_isinstance (pa_cons (pv 0) (pa_cons (pe_bltn (v := .ty "bool") (by rfl) B.bool_ boot_bool rfl) pa_nil)))) (pw_or1 (pt_not (pt_chain op_le op_le pe_int (pv 0) (pe_glob (v := .int 1000) (by rfl) g_SMALL ⟨_, rfl⟩)))))))
      (pss_one (ps_refuse rfl (L2N.takes_of rfl rfl rfl rfl) e_BadCount (by rfl))) pss_nil)), ?_⟩
    rcases nt with ⟨n, rfl, hn⟩ | ⟨b, rfl⟩ | ⟨T, ty, kt⟩
    · walk_at "gx"
      refine w_2 (fun hb => ?_) (fun hb => ?_)
      · have hb := of_decide_eq_true hb
        walk_at "gx"
        refine w_t (by rw [decide_eq_false (by unfold noSmall at hn; omega)]; rfl) ?_
        walk_at "gx"
        exact q H (Ex.refl H)
      · walk_at "gx"
        exact q H (Ex.refl H)
    · walk_at "gx"
      refine c_isi (.base (.bl b)) k_bi ?_
      walk_at "gx"
      exact q H (Ex.refl H)
    · walk_at "gx"
      refine c_isi ty kt ?_
      walk_at "gx"
      exact q H (Ex.refl H)
/-- of turners and something: the turners are refused, or the other -/
def spXTI (K : PySem.W.Frag) (p : Int → Prop) (CT C : Addr) : Sp := fun vs H _ E => ∃ u v, vs = [u, v] ∧ ((NotT K H u ∧ Er E H CT) ∨ ∃ a ts, u = .ref a ∧ SqL K H a (ts.map V.int) ∧ Good ts ∧ NotI K p H v ∧ Er E H C)
theorem x_is_open_bad {CT C : Addr} (F : Df K mg "is_open" s_is_open ["turners", "door"]) (x_asked_turners : CalX P w K mg base 2 "asked_turners" (spOr (spAskT K) (spXT K CT))) (x_asked_door : CalX P w K mg base 2 "asked_door" (spOr spAskD (spXI K noDoor C))) (c_stands_open : Cal P w K mg base CX0 1 "stands_open" (spStands K)) : CalX P w K mg base 3 "is_open" (spXTI K noDoor CT C) := by
  have sc : FnScope ["turners", "door"] ["turners", "door"] (defScope s_is_open) := ⟨rfl, rfl, rfl, by decide +kernel, rfl, by decide +kernel, by decide +kernel⟩
  refine F.okX sc (fun vs H Q E h => ?_) (fun f cdv A outer s H vs Q E hr h => ?_)
  · obtain ⟨u, v, rfl, _⟩ := h
    rfl
  · obtain ⟨u, v, rfl, h⟩ := h
    refine ⟨_, (pss_cons (ps_expr (pe_dx x_asked_turners hr (by decide) (L2N.takes_of rfl rfl rfl rfl) (by rfl) (pa_cons (pv 0) pa_nil)))
      (pss_cons (ps_expr (pe_dx x_asked_door hr (by decide) (L2N.takes_of rfl rfl rfl rfl) (by rfl) (pa_cons (pv 1) pa_nil)))
      (PSs.nox (pss_one (ps_ret (pe_d c_stands_open hr (by decide) (by rfl) (pa_cons (pv 0) (pa_cons (pv 1) pa_nil)))))))), ?_⟩
    walk_at "gx"
    rcases h with ⟨nt, q⟩ | ⟨a, ts, rfl, hS, hG, ni, q⟩
    · exact .inr ⟨u, rfl, nt, q⟩
    · refine .inl ⟨a, ts, rfl, hS, hG, fun H1 e1 => ?_⟩
      walk_at "gx"
      exact .inr ⟨v, rfl, ni.ext (ext_of e1), fun H2 e2 => q H2 (e1.trans e2)⟩
theorem x_kept_bad {CT : Addr} (F : Df K mg "kept" s_kept ["turners"]) (x_asked_turners : CalX P w K mg base 2 "asked_turners" (spOr (spAskT K) (spXT K CT))) (c_left_over : Cal P w K mg base CX0 1 "left_over" (spLeft K)) : CalX P w K mg base 3 "kept" (spXT K CT) := by
  have sc : FnScope ["turners"] ["turners"] (defScope s_kept) := ⟨rfl, rfl, rfl, by decide +kernel, rfl, by decide +kernel, by decide +kernel⟩
  refine F.okX sc (fun vs H Q E h => ?_) (fun f cdv A outer s H vs Q E hr h => ?_)
  · obtain ⟨v, rfl, _⟩ := h
    rfl
  · obtain ⟨v, rfl, nt, q⟩ := h
    refine ⟨_, (pss_cons (ps_expr (pe_dx x_asked_turners hr (by decide) (L2N.takes_of rfl rfl rfl rfl) (by rfl) (pa_cons (pv 0) pa_nil)))
      (PSs.nox (pss_one (ps_ret (pe_d c_left_over hr (by decide) (by rfl) (pa_cons (pv 0) pa_nil)))))), ?_⟩
    walk_at "gx"
    exact .inr ⟨v, rfl, nt, q⟩
/-- turners_for: the count, or the doors -/
def spXBring (K : PySem.W.Frag) (CC CB : Addr) : Sp := fun vs H _ E => ∃ u v, vs = [u, v] ∧ ((NotI K noSmall H u ∧ Er E H CC) ∨ ∃ n : Int, u = .int n ∧ 0 ≤ n ∧ n ≤ 1000 ∧ NotDs K n H v ∧ Er E H CB)
theorem x_turners_for_bad {CC CB : Addr} (F : Df K mg "turners_for" s_turners_for ["many", "doors"]) (B : Blt mg) (e_BadDoors : ErrC K mg "BadDoors" CB CD) (c_is_number : Cal P w K mg base CX0 1 "is_number" (spNumG K)) (x_asked_small : CalX P w K mg base 1 "asked_small" (spOr spAskS (spXI K noSmall CC))) : CalX P w K mg base 2 "turners_for" (spXBring K CC CB) := by
  have sc : FnScope ["many", "doors", "one", "at", "due", "door", "found", "other"] ["many", "doors"] (defScope s_turners_for) := ⟨rfl, rfl, rfl, by decide +kernel, rfl, by decide +kernel, by decide +kernel⟩
  refine F.okX sc (fun vs H Q E h => ?_) (fun f cdv A outer s H vs Q E hr h => ?_)
  · obtain ⟨u, v, rfl, _⟩ := h
    rfl
  · obtain ⟨u, v, rfl, h⟩ := h
    refine ⟨_, (pss_cons (ps_expr (pe_dx x_asked_small hr (by decide) (L2N.takes_of rfl rfl rfl rfl) (by rfl) (pa_cons (pv 0) pa_nil)))
      (pss_cons (ps_if (PW.pt (pw_or (pt_not (pt_val (pe_callB call_isi (by rfl) B.isinstance_ boot_isinstance (pa_cons (pv 1) (pa_cons (pe_bltn (v := .ty "list") (by rfl) B.list_ boot_list rfl) pa_nil))))) (pw_or1 (pt_not (pt_val (pe_callB (cr_all rfl) (by rfl) B.all_ boot_all (pa_cons (pe_lc (own := [("one", 2)]) (g := (gName 2)) (by rfl) sc.nd (pi_list (pv 1)) (blkOk_by (own := [("one", 2)]) (N := ["many", "doors", "one", "at", "due", "door", "found", "other"]) (sc := defScope s_turners_for) (by decide +kernel)) (fun _ _ _ _ _ => (pg_name (i := 2) sc.nd rfl (by first | exact Or.inl rfl | exact Or.inr rfl))) (fun _ _ _ _ _ => pts_nil) (fun _ _ _ _ _ => (pe_and (pe_d c_is_number hr (by decide) (by rfl) (pa_cons (pv 2) pa_nil)) (pe_one (pe_cmpR op_le (pv 2) (pv 0) (nomark _)))))) pa_nil)))))))
      (pss_one (ps_refuse rfl (L2N.takes_of rfl rfl rfl rfl) e_BadDoors (by rfl))) pss_nil)
      (pss_cons (ps_if (pt_val (pe_callB (cr_any rfl) (by rfl) B.any_ boot_any (pa_cons (pe_lc (own := [("at", 3)]) (g := (gName 3)) (by rfl) sc.nd (pi_range2 (by rfl) B.range_ (pa_cons pe_int (pa_cons (pe_callB call_len_s (by rfl) B.len_ boot_len (pa_cons (pv 1) pa_nil)) pa_nil))) (blkOk_by (own := [("at", 3)]) (N := ["many", "doors", "one", "at", "due", "door", "found", "other"]) (sc := defScope s_turners_for) (by decide +kernel)) (fun _ _ _ _ _ => (pg_name (i := 3) sc.nd rfl (by first | exact Or.inl rfl | exact Or.inr rfl))) (fun _ _ _ _ _ => pts_nil) (fun _ _ _ _ _ => (pe_cmpR op_ge (pe_ix (show IxR _ (rIxL K) from ix_list) (pv 1) (pe_op op_sub (pv 3) pe_int) (fun _ _ => rfl)) (pe_ix (show IxR _ (rIxL K) from ix_list) (pv 1) (pv 3) (fun _ _ => rfl)) (nomark _)))) pa_nil)))
      (pss_one (ps_refuse rfl (L2N.takes_of rfl rfl rfl rfl) e_BadDoors (by rfl))) pss_nil)
      (PSs.nox (pss_cons (ps_set (i := 4) sc.nd rfl (by first | exact Or.inl rfl | exact Or.inr rfl) (pe_op op_rep (pe_lst (pa_cons pe_bl pa_nil)) (pe_op op_add (pv 0) pe_int)))
      (pss_cons (ps_for PassesOwn.never rfl (pi_list (pv 1)) (pg_name (i := 5) sc.nd rfl (by first | exact Or.inl rfl | exact Or.inr rfl))
      (pss_one (ps_asg pe_bl (pg_sub (pv 4) (pv 5) set_list))))
      (pss_cons (ps_set (i := 6) sc.nd rfl (by first | exact Or.inl rfl | exact Or.inr rfl) (pe_lst pa_nil))
      (pss_cons (ps_for PassesOwn.never rfl (pi_range2 (by rfl) B.range_ (pa_cons pe_int (pa_cons (pe_op op_add (pv 0) pe_int) pa_nil))) (pg_name (i := 5) sc.nd rfl (by first | exact Or.inl rfl | exact Or.inr rfl))
      (pss_one (ps_if (pt_val (pe_ix ix_list (pv 4) (pv 5) (fun _ _ => rfl)))
      (pss_cons (ps_expr (pe_bm PySem.F.plainAttrs_list PySem.F.slot_list_append PySem.F.type_list_append mt_append (pv 6) (pa_cons (pv 5) pa_nil)))
      (pss_one (ps_for PassesOwn.never rfl (pi_range3 (by rfl) B.range_ (pa_cons (pv 5) (pa_cons (pe_op op_add (pv 0) pe_int) (pa_cons (pv 5) pa_nil)))) (pg_name (i := 7) sc.nd rfl (by first | exact Or.inl rfl | exact Or.inr rfl))
      (pss_one (ps_asg (pe_not (pe_ix ix_list (pv 4) (pv 7) (fun _ _ => rfl))) (pg_sub (pv 4) (pv 7) set_list)))))) pss_nil)))
      (pss_one (ps_ret (pv 6))))))))))), ?_⟩
    walk_at "gx"
    rcases h with ⟨ni, q⟩ | ⟨n, rfl, n0, n1, nd, q⟩
    · exact .inr ⟨u, rfl, ni, q⟩
    · refine .inl ⟨n, rfl, n0, n1, ?_⟩
      walk_at "gx"
      rcases nd with ⟨T, ty, kt⟩ | ⟨a, vs, rfl, hS, hl, h⟩
      · refine c_isi ty kt ?_
        walk_at "gx"
        exact q H (Ex.refl H)
      · refine c_isiL hS ?_
        walk_at "gx"
        have pl : ∀ x ∈ vs, Pl K H x := by
          rcases h with h | ⟨D, rfl, _⟩
          · exact h.1
          · intro x hx
            obtain ⟨d, _, rfl⟩ := List.mem_map.mp hx
            exact .inl ⟨d, rfl, trivial⟩
        refine el_lcL (K := K) (σ := [some (.int n), some (.ref a), none, none, none, none, none, none]) (fun _ => true) (fun i => V.bl (okD n (vs.getD i .non))) (ev_var rfl) hS (by omega) (fun x => rfl) (fun i x H1 e hx => ?_) (fun i x H1 e hx _ => ?_) H (Ex.refl H) _ (fun p H2 hp e2 h2' => ?_)
        · exact fun H2 _ QB k => k H2 (Ex.refl H2)
        · obtain ⟨ex, hm⟩ := getD_at hx
          rw [ex]
          intro H2 e2 Q2 k
          walk_at "go"
          refine ⟨_, rfl, (pl x hm).ext (ext_of (e.trans e2)), ?_⟩
          cases x with
          | int m =>
            refine ⟨decide (0 < m), rfl, ?_⟩
            refine w_2 (fun hb => ?_) (fun hb => ?_)
            · walk_at "go"
              have e3 : okD n (.int m) = decide (m ≤ n) := by show (decide (0 < m) && decide (m ≤ n)) = decide (m ≤ n); rw [hb]; rfl
              rw [e3] at k
              exact k H2 (Ex.refl H2)
            · have e3 : okD n (.int m) = false := by show (decide (0 < m) && decide (m ≤ n)) = false; rw [hb]; rfl
              rw [e3] at k
              exact k H2 (Ex.refl H2)
          | _ => exact ⟨false, rfl, k H2 (Ex.refl H2)⟩
        · rw [given_vals vs (okD n)] at h2'
          walk_at "gx"
          refine c_all (.inl (.inl h2')) ?_
          rcases h with ⟨_, h3⟩ | ⟨D, rfl, hD, i, hi, hle⟩
          · rw [all_bad h3]
            walk_at "gx"
            exact q H2 e2
          · have ea : ((D.map V.int).map (okD n)).all id = true := by
              rw [List.all_eq_true]
              intro b hb
              obtain ⟨x, hx, rfl⟩ := List.mem_map.mp hb
              obtain ⟨d, hd, rfl⟩ := List.mem_map.mp hx
              have := hD d hd
              show (decide (0 < d) && decide (d ≤ n)) = true
              rw [decide_eq_true (by omega), decide_eq_true (by omega)]
              rfl
            rw [ea]
            have hl' : D.length ≤ 1000 := by rw [List.length_map] at hl; exact hl
            walk_at "gx"
            refine el_lcR2 (σ := [some (.int n), some (.ref a), none, none, none, none, none, none]) (lo := 1) (hi := (D.length : Int)) (fun _ => true) (fun j => V.bl (decide (D.getD (j + 1) 0 ≤ D.getD j 0))) (fun H3 e3 Q3 k => ?_) (by omega) (by omega) (fun x => rfl) (fun j H3 e3 hj => ?_) (fun j H3 e3 hj _ => ?_) H2 (Ex.refl H2) _ (fun p3 H3 hp3 e3 h3 => ?_)
            · walk_at "go"
              refine c_len (ex_l (e2.trans e3) hS) ?_
              rw [List.length_map]
              walk_at "go"
              exact k H3 (Ex.refl H3)
            · exact fun H4 _ QB k => k H4 (Ex.refl H4)
            · intro H4 e4 Q4 k
              walk_at "go"
              refine ⟨a, _, _, _, rfl, rfl, ex_l ((e2.trans e3).trans e4) hS, atI_int (by omega) (by omega), ?_⟩
              walk_at "go"
              refine ⟨a, _, _, _, rfl, rfl, ex_l ((e2.trans e3).trans e4) hS, atI_int (by omega) (by omega), ?_⟩
              walk_at "go"
              have i1 : (1 + (j : Int) - 1).toNat = j := by omega
              have i2 : (1 + (j : Int)).toNat = j + 1 := by omega
              rw [i1, i2]
              exact k H4 (Ex.refl H4)
            · rw [given_true ((D.length : Int) - 1).toNat fun j => decide (D.getD (j + 1) 0 ≤ D.getD j 0)] at h3
              walk_at "gx"
              refine c_any (.inl (.inl h3)) ?_
              have ey : ((List.range ((D.length : Int) - 1).toNat).map fun j => decide (D.getD (j + 1) 0 ≤ D.getD j 0)).any id = true := by
                rw [List.any_eq_true]
                exact ⟨true, List.mem_map.mpr ⟨i, List.mem_range.mpr (by omega), decide_eq_true hle⟩, rfl⟩
              rw [ey]
              walk_at "gx"
              exact q H3 (e2.trans e3)
end
section
variable {P : Program} {w : World} {K : PySem.W.Frag} {mg : Str → Option Value} {base : Heap} {CD : Addr}
/-- how_many: too many are kept -/
def spHowMany (K : PySem.W.Frag) (C : Addr) : Sp := fun vs H _ E => ∃ (a : Addr) (ts : List Int) (n : Nat), vs = [.ref a, .int n] ∧ SqL K H a (ts.map V.int) ∧ Good ts ∧ (∀ ks, IsKept ts ks → 12 < ks.length) ∧ ∀ H', Ex H H' → E (.ref C) none H'
theorem x_how_many_many {C : Addr} (F : Df K mg "how_many" s_how_many ["turners", "many"]) (B : Blt mg) (g_FEW : ∃ t, mg "FEW" = some (.int 12 t)) (e_TooMany : ErrC K mg "TooMany" C CD) {sA sB : Sp} (x_asked_turners : CalX P w K mg base 2 "asked_turners" (spOr (spAskT K) sA)) (x_asked_count : CalX P w K mg base 1 "asked_count" (spOr spAskC sB)) (c_left_over : Cal P w K mg base CX0 1 "left_over" (spLeft K)) (c_both : Cal P w K mg base CX0 2 "both" spBoth) : CalX P w K mg base 3 "how_many" (spHowMany K C) := by
  obtain ⟨tm, g_FEW⟩ := g_FEW
  have sc : FnScope ["turners", "many", "some", "terms", "one", "step", "often"] ["turners", "many"] (defScope s_how_many) := ⟨rfl, rfl, rfl, by decide +kernel, rfl, by decide +kernel, by decide +kernel⟩
  refine F.okX sc (fun vs H Q E h => ?_) (fun f cdv A outer s H vs Q E hr h => ?_)
  · obtain ⟨a, ts, n, rfl, _⟩ := h
    rfl
  · obtain ⟨a, ts, n, rfl, hS, hG, hk12, q⟩ := h
    refine ⟨_, (pss_cons (ps_expr (pe_dx x_asked_turners hr (by decide) (L2N.takes_of rfl rfl rfl rfl) (by rfl) (pa_cons (pv 0) pa_nil)))
      (pss_cons (ps_expr (pe_dx x_asked_count hr (by decide) (L2N.takes_of rfl rfl rfl rfl) (by rfl) (pa_cons (pv 1) pa_nil)))
      (pss_cons (ps_set (i := 2) sc.nd rfl (by first | exact Or.inl rfl | exact Or.inr rfl) (pe_d c_left_over hr (by decide) (by rfl) (pa_cons (pv 0) pa_nil)))
      (pss_cons (ps_if (pt_cmpR op_gt (pe_callB call_len_s (by rfl) B.len_ boot_len (pa_cons (pv 2) pa_nil)) (pe_glob (v := .int 12) (by rfl) g_FEW ⟨_, rfl⟩) (nomark _))
      (pss_one (ps_refuse rfl (L2N.takes_of rfl rfl rfl rfl) e_TooMany (by rfl))) pss_nil)
      (PSs.nox (pss_cons (ps_set (i := 3) sc.nd rfl (by first | exact Or.inl rfl | exact Or.inr rfl) (pe_lst (pa_cons (pe_tup (pa_cons pe_int (pa_cons pe_int pa_nil))) pa_nil)))
      (pss_cons (ps_for PassesOwn.never rfl (pi_list (pv 2)) (pg_name (i := 4) sc.nd rfl (by first | exact Or.inl rfl | exact Or.inr rfl))
      (pss_one (ps_set (i := 3) sc.nd rfl (by first | exact Or.inl rfl | exact Or.inr rfl) (pe_op op_cat (pv 3) (pe_lc (own := [("step", 5), ("often", 6)]) (g := (gTup _ 2 (gCons (gName 5) (gCons (gName 6) gNil)))) (by rfl) sc.nd (pi_list (pv 3)) (blkOk_by (own := [("step", 5), ("often", 6)]) (N := ["turners", "many", "some", "terms", "one", "step", "often"]) (sc := defScope s_how_many) (by decide +kernel)) (fun _ _ _ _ _ => (pg_tup rfl (pgs_cons (pg_name (i := 5) sc.nd rfl (by first | exact Or.inl rfl | exact Or.inr rfl)) (pgs_cons (pg_name (i := 6) sc.nd rfl (by first | exact Or.inl rfl | exact Or.inr rfl)) pgs_nil)))) (fun _ _ _ _ _ => pts_nil) (fun _ _ _ _ _ => (pe_tup (pa_cons (pe_d c_both hr (by decide) (by rfl) (pa_cons (pv 5) (pa_cons (pv 4) pa_nil))) (pa_cons (pe_op op_mul (pe_un un_neg pe_int) (pv 6)) pa_nil)))))))))
      (pss_one (ps_ret (pe_op op_fdivN (pe_callB (cr_sum rfl) (by rfl) B.sum_ boot_sum (pa_cons (pe_lc (own := [("step", 5), ("often", 6)]) (g := (gTup _ 2 (gCons (gName 5) (gCons (gName 6) gNil)))) (by rfl) sc.nd (pi_list (pe_slice sl_list (pv 3) (po_some pe_int) po_none)) (blkOk_by (own := [("step", 5), ("often", 6)]) (N := ["turners", "many", "some", "terms", "one", "step", "often"]) (sc := defScope s_how_many) (by decide +kernel)) (fun _ _ _ _ _ => (pg_tup rfl (pgs_cons (pg_name (i := 5) sc.nd rfl (by first | exact Or.inl rfl | exact Or.inr rfl)) (pgs_cons (pg_name (i := 6) sc.nd rfl (by first | exact Or.inl rfl | exact Or.inr rfl)) pgs_nil)))) (fun _ _ _ _ _ => pts_nil) (fun _ _ _ _ _ => (pe_op op_mul (pv 6) (pe_op op_fdivW (pv 1) (pv 5))))) pa_nil)) (pe_un un_neg pe_int))))))))))), ?_⟩
    walk_at "gx"
    refine .inl ⟨a, ts, rfl, hS, hG, fun H1 e1 => ?_⟩
    walk_at "gx"
    refine .inl ⟨n, rfl, by omega, ?_⟩
    walk_at "gx"
    refine ⟨a, ts, rfl, ex_l e1 hS, by have := hG.len; omega, fun ks hk so H2 nso e2 hso => ?_⟩
    have h12 := hk12 ks hk
    walk_at "gx"
    refine c_len (.inl (.inl hso)) ?_
    walk_at "gx"
    refine w_t (decide_eq_true (by rw [List.length_map]; omega)) ?_
    walk_at "gx"
    exact q H2 (e1.trans e2)
end
section
variable {P : Program} {w : World} {K : PySem.W.Frag} {mg : Str → Option Value} {base : Heap} {CD : Addr}
/-! ### refusals: the further defs -/
theorem x_asked_count_bad {C : Addr} (F : Df K mg "asked_count" s_asked_count ["many"]) (B : Blt mg) (e_BadCount : ErrC K mg "BadCount" C CD) : CalX P w K mg base 1 "asked_count" (spXI K noCount C) := by
  have sc : FnScope ["many"] ["many"] (defScope s_asked_count) := ⟨rfl, rfl, rfl, by decide +kernel, rfl, by decide +kernel, by decide +kernel⟩
  refine F.okX sc (fun vs H Q E h => ?_) (fun f cdv A outer s H vs Q E hr h => ?_)
  · obtain ⟨v, rfl, _⟩ := h
    rfl
  · obtain ⟨v, rfl, nt, q⟩ := h
    refine ⟨_, (pss_one (ps_if (PW.pt (pw_or (pt_not (pt_val (pe_callB call_isi (by rfl) B.isinstance_ boot_isinstance (pa_cons (pv 0) (pa_cons (pe_bltn (v := .ty "int") (by rfl) B.int_ boot_int rfl) pa_nil))))) (pw_or (pt_val (pe_callB call_isi (by rfl) B.isinstance_ boot_isinstance (pa_cons (pv 0) (pa_cons (pe_bltn (v := .ty "bool") (by rfl) B.bool_ boot_bool rfl) pa_nil)))) (pw_or1 (pt_cmpR op_lt (pv 0) pe_int (nomark _))))))
      (pss_one (ps_refuse rfl (L2N.takes_of rfl rfl rfl rfl) e_BadCount (by rfl))) pss_nil)), ?_⟩
    rcases nt with ⟨n, rfl, hn⟩ | ⟨b, rfl⟩ | ⟨T, ty, kt⟩
    · walk_at "gx"
      refine w_t (decide_eq_true (show n < 0 from hn)) ?_
      walk_at "gx"
      exact q H (Ex.refl H)
    · walk_at "gx"
      refine c_isi (.base (.bl b)) k_bi ?_
      walk_at "gx"
      exact q H (Ex.refl H)
    · walk_at "gx"
      refine c_isi ty kt ?_
      walk_at "gx"
      exact q H (Ex.refl H)
theorem x_open_doors_bad {CT C : Addr} (F : Df K mg "open_doors" s_open_doors ["turners", "many"]) (B : Blt mg) (x_asked_turners : CalX P w K mg base 2 "asked_turners" (spOr (spAskT K) (spXT K CT))) (x_asked_small : CalX P w K mg base 1 "asked_small" (spOr spAskS (spXI K noSmall C))) (c_stands_open : Cal P w K mg base CX0 1 "stands_open" (spStands K)) : CalX P w K mg base 3 "open_doors" (spXTI K noSmall CT C) := by
  have sc : FnScope ["turners", "many", "door"] ["turners", "many"] (defScope s_open_doors) := ⟨rfl, rfl, rfl, by decide +kernel, rfl, by decide +kernel, by decide +kernel⟩
  refine F.okX sc (fun vs H Q E h => ?_) (fun f cdv A outer s H vs Q E hr h => ?_)
  · obtain ⟨u, v, rfl, _⟩ := h
    rfl
  · obtain ⟨u, v, rfl, h⟩ := h
    refine ⟨_, (pss_cons (ps_expr (pe_dx x_asked_turners hr (by decide) (L2N.takes_of rfl rfl rfl rfl) (by rfl) (pa_cons (pv 0) pa_nil)))
      (pss_cons (ps_expr (pe_dx x_asked_small hr (by decide) (L2N.takes_of rfl rfl rfl rfl) (by rfl) (pa_cons (pv 1) pa_nil)))
      (PSs.nox (pss_one (ps_ret (pe_lc (own := [("door", 2)]) (g := (gName 2)) (by rfl) sc.nd (pi_range2 (by rfl) B.range_ (pa_cons pe_int (pa_cons (pe_op op_add (pv 1) pe_int) pa_nil))) (blkOk_by (own := [("door", 2)]) (N := ["turners", "many", "door"]) (sc := defScope s_open_doors) (by decide +kernel)) (fun _ _ _ _ _ => (pg_name (i := 2) sc.nd rfl (by first | exact Or.inl rfl | exact Or.inr rfl))) (fun _ _ _ _ _ => (pts_one (pt_val (pe_d c_stands_open hr (by decide) (by rfl) (pa_cons (pv 0) (pa_cons (pv 2) pa_nil)))))) (fun _ _ _ _ _ => (pv 2)))))))), ?_⟩
    walk_at "gx"
    rcases h with ⟨nt, q⟩ | ⟨a, ts, rfl, hS, hG, ni, q⟩
    · exact .inr ⟨u, rfl, nt, q⟩
    · refine .inl ⟨a, ts, rfl, hS, hG, fun H1 e1 => ?_⟩
      walk_at "gx"
      exact .inr ⟨v, rfl, ni.ext (ext_of e1), fun H2 e2 => q H2 (e1.trans e2)⟩
theorem x_round_of_bad {CT : Addr} (F : Df K mg "round_of" s_round_of ["turners"]) (x_asked_turners : CalX P w K mg base 2 "asked_turners" (spOr (spAskT K) (spXT K CT))) (c_left_over : Cal P w K mg base CX0 1 "left_over" (spLeft K)) (c_both : Cal P w K mg base CX0 2 "both" spBoth) : CalX P w K mg base 3 "round_of" (spXT K CT) := by
  have sc : FnScope ["turners", "found", "one"] ["turners"] (defScope s_round_of) := ⟨rfl, rfl, rfl, by decide +kernel, rfl, by decide +kernel, by decide +kernel⟩
  refine F.okX sc (fun vs H Q E h => ?_) (fun f cdv A outer s H vs Q E hr h => ?_)
  · obtain ⟨v, rfl, _⟩ := h
    rfl
  · obtain ⟨v, rfl, nt, q⟩ := h
    refine ⟨_, (pss_cons (ps_expr (pe_dx x_asked_turners hr (by decide) (L2N.takes_of rfl rfl rfl rfl) (by rfl) (pa_cons (pv 0) pa_nil)))
      (PSs.nox (pss_cons (ps_set (i := 1) sc.nd rfl (by first | exact Or.inl rfl | exact Or.inr rfl) pe_int)
      (pss_cons (ps_for PassesOwn.never rfl (pi_list (pe_d c_left_over hr (by decide) (by rfl) (pa_cons (pv 0) pa_nil))) (pg_name (i := 2) sc.nd rfl (by first | exact Or.inl rfl | exact Or.inr rfl))
      (pss_one (ps_set (i := 1) sc.nd rfl (by first | exact Or.inl rfl | exact Or.inr rfl) (pe_d c_both hr (by decide) (by rfl) (pa_cons (pv 1) (pa_cons (pv 2) pa_nil))))))
      (pss_one (ps_ret (pv 1))))))), ?_⟩
    walk_at "gx"
    exact .inr ⟨v, rfl, nt, q⟩
/-- how_many: the turners, the count, too many -/
def spXHow (K : PySem.W.Frag) (CT CC CM : Addr) : Sp := spOr (spXTI K noCount CT CC) (spHowMany K CM)
theorem x_how_many_bad {CT CC CM : Addr} (F : Df K mg "how_many" s_how_many ["turners", "many"]) (B : Blt mg) (g_FEW : ∃ t, mg "FEW" = some (.int 12 t)) (e_TooMany : ErrC K mg "TooMany" CM CD) (x_asked_turners : CalX P w K mg base 2 "asked_turners" (spOr (spAskT K) (spXT K CT))) (x_asked_count : CalX P w K mg base 1 "asked_count" (spOr spAskC (spXI K noCount CC))) (c_left_over : Cal P w K mg base CX0 1 "left_over" (spLeft K)) (c_both : Cal P w K mg base CX0 2 "both" spBoth) : CalX P w K mg base 3 "how_many" (spXHow K CT CC CM) := by
  refine CalX.both ?_ (x_how_many_many F B g_FEW e_TooMany x_asked_turners x_asked_count c_left_over c_both)
  obtain ⟨tm, g_FEW⟩ := g_FEW
  have sc : FnScope ["turners", "many", "some", "terms", "one", "step", "often"] ["turners", "many"] (defScope s_how_many) := ⟨rfl, rfl, rfl, by decide +kernel, rfl, by decide +kernel, by decide +kernel⟩
  refine F.okX sc (fun vs H Q E h => ?_) (fun f cdv A outer s H vs Q E hr h => ?_)
  · obtain ⟨u, v, rfl, _⟩ := h
    rfl
  · obtain ⟨u, v, rfl, h⟩ := h
    refine ⟨_, (pss_cons (ps_expr (pe_dx x_asked_turners hr (by decide) (L2N.takes_of rfl rfl rfl rfl) (by rfl) (pa_cons (pv 0) pa_nil)))
      (pss_cons (ps_expr (pe_dx x_asked_count hr (by decide) (L2N.takes_of rfl rfl rfl rfl) (by rfl) (pa_cons (pv 1) pa_nil)))
      (pss_cons (ps_set (i := 2) sc.nd rfl (by first | exact Or.inl rfl | exact Or.inr rfl) (pe_d c_left_over hr (by decide) (by rfl) (pa_cons (pv 0) pa_nil)))
      (pss_cons (ps_if (pt_cmpR op_gt (pe_callB call_len_s (by rfl) B.len_ boot_len (pa_cons (pv 2) pa_nil)) (pe_glob (v := .int 12) (by rfl) g_FEW ⟨_, rfl⟩) (nomark _))
      (pss_one (ps_refuse rfl (L2N.takes_of rfl rfl rfl rfl) e_TooMany (by rfl))) pss_nil)
      (PSs.nox (pss_cons (ps_set (i := 3) sc.nd rfl (by first | exact Or.inl rfl | exact Or.inr rfl) (pe_lst (pa_cons (pe_tup (pa_cons pe_int (pa_cons pe_int pa_nil))) pa_nil)))
      (pss_cons (ps_for PassesOwn.never rfl (pi_list (pv 2)) (pg_name (i := 4) sc.nd rfl (by first | exact Or.inl rfl | exact Or.inr rfl))
      (pss_one (ps_set (i := 3) sc.nd rfl (by first | exact Or.inl rfl | exact Or.inr rfl) (pe_op op_cat (pv 3) (pe_lc (own := [("step", 5), ("often", 6)]) (g := (gTup _ 2 (gCons (gName 5) (gCons (gName 6) gNil)))) (by rfl) sc.nd (pi_list (pv 3)) (blkOk_by (own := [("step", 5), ("often", 6)]) (N := ["turners", "many", "some", "terms", "one", "step", "often"]) (sc := defScope s_how_many) (by decide +kernel)) (fun _ _ _ _ _ => (pg_tup rfl (pgs_cons (pg_name (i := 5) sc.nd rfl (by first | exact Or.inl rfl | exact Or.inr rfl)) (pgs_cons (pg_name (i := 6) sc.nd rfl (by first | exact Or.inl rfl | exact Or.inr rfl)) pgs_nil)))) (fun _ _ _ _ _ => pts_nil) (fun _ _ _ _ _ => (pe_tup (pa_cons (pe_d c_both hr (by decide) (by rfl) (pa_cons (pv 5) (pa_cons (pv 4) pa_nil))) (pa_cons (pe_op op_mul (pe_un un_neg pe_int) (pv 6)) pa_nil)))))))))
      (pss_one (ps_ret (pe_op op_fdivN (pe_callB (cr_sum rfl) (by rfl) B.sum_ boot_sum (pa_cons (pe_lc (own := [("step", 5), ("often", 6)]) (g := (gTup _ 2 (gCons (gName 5) (gCons (gName 6) gNil)))) (by rfl) sc.nd (pi_list (pe_slice sl_list (pv 3) (po_some pe_int) po_none)) (blkOk_by (own := [("step", 5), ("often", 6)]) (N := ["turners", "many", "some", "terms", "one", "step", "often"]) (sc := defScope s_how_many) (by decide +kernel)) (fun _ _ _ _ _ => (pg_tup rfl (pgs_cons (pg_name (i := 5) sc.nd rfl (by first | exact Or.inl rfl | exact Or.inr rfl)) (pgs_cons (pg_name (i := 6) sc.nd rfl (by first | exact Or.inl rfl | exact Or.inr rfl)) pgs_nil)))) (fun _ _ _ _ _ => pts_nil) (fun _ _ _ _ _ => (pe_op op_mul (pv 6) (pe_op op_fdivW (pv 1) (pv 5))))) pa_nil)) (pe_un un_neg pe_int))))))))))), ?_⟩
    walk_at "gx"
    rcases h with ⟨nt, q⟩ | ⟨a, ts, rfl, hS, hG, ni, q⟩
    · exact .inr ⟨u, rfl, nt, q⟩
    · refine .inl ⟨a, ts, rfl, hS, hG, fun H1 e1 => ?_⟩
      walk_at "gx"
      exact .inr ⟨v, rfl, ni.ext (ext_of e1), fun H2 e2 => q H2 (e1.trans e2)⟩
theorem x_by_all_bad {C : Addr} (F : Df K mg "by_all" s_by_all ["many"]) (x_asked_count : CalX P w K mg base 1 "asked_count" (spOr spAskC (spXI K noCount C))) (c_root : Cal P w K mg base CX0 1 "root" spRoot) : CalX P w K mg base 2 "by_all" (spXI K noCount C) := by
  have sc : FnScope ["many"] ["many"] (defScope s_by_all) := ⟨rfl, rfl, rfl, by decide +kernel, rfl, by decide +kernel, by decide +kernel⟩
  refine F.okX sc (fun vs H Q E h => ?_) (fun f cdv A outer s H vs Q E hr h => ?_)
  · obtain ⟨v, rfl, _⟩ := h
    rfl
  · obtain ⟨v, rfl, nt, q⟩ := h
    refine ⟨_, (pss_cons (ps_expr (pe_dx x_asked_count hr (by decide) (L2N.takes_of rfl rfl rfl rfl) (by rfl) (pa_cons (pv 0) pa_nil)))
      (PSs.nox (pss_one (ps_ret (pe_d c_root hr (by decide) (by rfl) (pa_cons (pv 0) pa_nil)))))), ?_⟩
    walk_at "gx"
    exact .inr ⟨v, rfl, nt, q⟩
/-- by_stretch: the stretch, the door, a door too far -/
def spXStr (K : PySem.W.Frag) (CS CD CC : Addr) : Sp := fun vs H _ E => ∃ u v d, vs = [u, v, d] ∧
  (((NotI K noDoor H u ∨ ∃ n : Int, u = .int n ∧ 1 ≤ n ∧ (NotI K noDoor H v ∨ ∃ m : Int, v = .int m ∧ 1 ≤ m ∧ m < n)) ∧ Er E H CS) ∨
   ∃ n m : Int, u = .int n ∧ v = .int m ∧ 1 ≤ n ∧ n ≤ m ∧ ((NotI K noDoor H d ∧ Er E H CD) ∨ ∃ k : Int, d = .int k ∧ 1000000000 < k ∧ Er E H CC))
theorem x_by_stretch_bad {CS CB CC : Addr} (F : Df K mg "by_stretch" s_by_stretch ["first", "last", "door"]) (g_GREATEST : ∃ t, mg "GREATEST" = some (.int 1000000000 t)) (e_BadStretch : ErrC K mg "BadStretch" CS CD) (e_BadCount : ErrC K mg "BadCount" CC CD) (c_is_number : Cal P w K mg base CX0 1 "is_number" (spNumG K)) (x_asked_door : CalX P w K mg base 2 "asked_door" (spOr spAskD (spXI K noDoor CB))) : CalX P w K mg base 3 "by_stretch" (spXStr K CS CB CC) := by
  obtain ⟨tg, g_GREATEST⟩ := g_GREATEST
  have sc : FnScope ["first", "last", "door", "found", "at"] ["first", "last", "door"] (defScope s_by_stretch) := ⟨rfl, rfl, rfl, by decide +kernel, rfl, by decide +kernel, by decide +kernel⟩
  refine F.okX sc (fun vs H Q E h => ?_) (fun f cdv A outer s H vs Q E hr h => ?_)
  · obtain ⟨u, v, d, rfl, _⟩ := h
    rfl
  · obtain ⟨u, v, d, rfl, h⟩ := h
    refine ⟨_, (pss_cons (ps_if (PW.pt (pw_or (pt_not (pt_val (pe_d c_is_number hr (by decide) (by rfl) (pa_cons (pv 0) pa_nil)))) (pw_or (pt_not (pt_val (pe_d c_is_number hr (by decide) (by rfl) (pa_cons (pv 1) pa_nil)))) (pw_or1 (pt_cmpR op_lt (pv 1) (pv 0) (nomark _))))))
      (pss_one (ps_refuse rfl (L2N.takes_of rfl rfl rfl rfl) e_BadStretch (by rfl))) pss_nil)
      (pss_cons (ps_expr (pe_dx x_asked_door hr (by decide) (L2N.takes_of rfl rfl rfl rfl) (by rfl) (pa_cons (pv 2) pa_nil)))
      (pss_cons (ps_if (pt_cmpR op_gt (pv 2) (pe_glob (v := .int 1000000000) (by rfl) g_GREATEST ⟨_, rfl⟩) (nomark _))
      (pss_one (ps_refuse rfl (L2N.takes_of rfl rfl rfl rfl) e_BadCount (by rfl))) pss_nil)
      (PSs.nox (pss_cons (ps_set (i := 3) sc.nd rfl (by first | exact Or.inl rfl | exact Or.inr rfl) pe_int)
      (pss_cons (ps_set (i := 4) sc.nd rfl (by first | exact Or.inl rfl | exact Or.inr rfl) pe_int)
      (pss_cons (ps_while PassesOwn.never (pt_cmpR op_le (pe_op op_mul (pv 4) (pv 4)) (pv 2) (nomark _))
      (pss_cut (ps_if (pt_cmpR op_eq (pe_op op_mod (pv 2) (pv 4)) pe_int (nomark _))
      (pss_cons (ps_set (i := 3) sc.nd rfl (by first | exact Or.inl rfl | exact Or.inr rfl) (pe_op op_add (pv 3) (pe_ifExp (pt_chain op_le op_le (pv 0) (pv 4) (pv 1)) pe_int pe_int)))
      (pss_one (ps_if (pt_cmpR op_lt (pe_op op_mul (pv 4) (pv 4)) (pv 2) (nomark _))
      (pss_one (ps_set (i := 3) sc.nd rfl (by first | exact Or.inl rfl | exact Or.inr rfl) (pe_op op_add (pv 3) (pe_ifExp (pt_chain op_le op_le (pv 0) (pe_op op_fdiv (pv 2) (pv 4)) (pv 1)) pe_int pe_int)))) pss_nil))) pss_nil)
      (pss_one (ps_set (i := 4) sc.nd rfl (by first | exact Or.inl rfl | exact Or.inr rfl) (pe_op op_add (pv 4) pe_int)))))
      (pss_one (ps_ret (pe_cmpR op_eq (pe_op op_mod (pv 3) pe_int) pe_int (nomark _))))))))))), ?_⟩
    walk_at "gx"
    rcases h with ⟨h, q⟩ | ⟨n, m, rfl, rfl, n1, nm, h⟩
    · rcases h with ni | ⟨n, rfl, n1, h⟩
      · refine ⟨u, rfl, ni.imp fun _ _ => trivial, ?_⟩
        rw [isN_bad ni]
        walk_at "gx"
        exact q H (Ex.refl H)
      · refine ⟨_, rfl, .inl ⟨n, rfl, trivial⟩, ?_⟩
        rw [show isN (.int n) = true from decide_eq_true (by omega)]
        walk_at "gx"
        rcases h with ni | ⟨m, rfl, m1, hm⟩
        · refine ⟨v, rfl, ni.imp fun _ _ => trivial, ?_⟩
          rw [isN_bad ni]
          walk_at "gx"
          exact q H (Ex.refl H)
        · refine ⟨_, rfl, .inl ⟨m, rfl, trivial⟩, ?_⟩
          rw [show isN (.int m) = true from decide_eq_true (by omega)]
          walk_at "gx"
          refine w_t (decide_eq_true hm) ?_
          walk_at "gx"
          exact q H (Ex.refl H)
    · refine ⟨_, rfl, .inl ⟨n, rfl, trivial⟩, ?_⟩
      rw [show isN (.int n) = true from decide_eq_true (by omega)]
      walk_at "gx"
      refine ⟨_, rfl, .inl ⟨m, rfl, trivial⟩, ?_⟩
      rw [show isN (.int m) = true from decide_eq_true (by omega)]
      walk_at "gx"
      refine w_f (decide_eq_false (by omega)) ?_
      walk_at "gx"
      rcases h with ⟨ni, q⟩ | ⟨k, rfl, hk, q⟩
      · exact .inr ⟨d, rfl, ni, q⟩
      · refine .inl ⟨k, rfl, by omega, ?_⟩
        walk_at "gx"
        refine w_t (decide_eq_true (by omega)) ?_
        walk_at "gx"
        exact q H (Ex.refl H)
/-- compared: the one, or the other -/
def spXComp (K : PySem.W.Frag) (CT : Addr) : Sp := fun vs H _ E => ∃ u v, vs = [u, v] ∧ Er E H CT ∧ (NotT K H u ∨ ∃ a ts, u = .ref a ∧ SqL K H a (ts.map V.int) ∧ Good ts ∧ NotT K H v)
theorem x_compared_bad {CA CS CU CT : Addr} (O : Own K mg CA CS CU) (F : Df K mg "compared" s_compared ["one", "other"]) (x_asked_turners : CalX P w K mg base 2 "asked_turners" (spOr (spAskT K) (spXT K CT))) (c_left_over : Cal P w K mg base CX0 1 "left_over" (spLeft K)) (mk_Unlike : MakC P w K mg base 1 "Unlike" CU (spInit CU)) : CalX P w K mg base 3 "compared" (spXComp K CT) := by
  have m0_Same := O.m0
  have gC_Same := O.gS
  have sc : FnScope ["one", "other", "apart"] ["one", "other"] (defScope s_compared) := ⟨rfl, rfl, rfl, by decide +kernel, rfl, by decide +kernel, by decide +kernel⟩
  refine F.okX sc (fun vs H Q E h => ?_) (fun f cdv A outer s H vs Q E hr h => ?_)
  · obtain ⟨u, v, rfl, _⟩ := h
    rfl
  · obtain ⟨u, v, rfl, q, h⟩ := h
    refine ⟨_, (pss_cons (ps_expr (pe_dx x_asked_turners hr (by decide) (L2N.takes_of rfl rfl rfl rfl) (by rfl) (pa_cons (pv 0) pa_nil)))
      (pss_cons (ps_expr (pe_dx x_asked_turners hr (by decide) (L2N.takes_of rfl rfl rfl rfl) (by rfl) (pa_cons (pv 1) pa_nil)))
      (PSs.nox (pss_cons (ps_set (i := 2) sc.nd rfl (by first | exact Or.inl rfl | exact Or.inr rfl) (pe_d c_left_over hr (by decide) (by rfl) (pa_cons (pe_op op_cat (pv 0) (pv 1)) pa_nil)))
      (pss_one (ps_ret (pe_ifExp (pt_cmpR (op_eqD hr.units) (pv 2) (pe_lst pa_nil) (nomark _)) (pe_make00 m0_Same (by rfl) gC_Same) (pe_mkc mk_Unlike hr (by decide) (by rfl) (pa_cons (pe_ix ix_list (pv 2) pe_int (fun _ _ => rfl)) pa_nil))))))))), ?_⟩
    walk_at "gx"
    rcases h with nt | ⟨a, ts, rfl, hS, hG, ni⟩
    · exact .inr ⟨u, rfl, nt, q⟩
    · refine .inl ⟨a, ts, rfl, hS, hG, fun H1 e1 => ?_⟩
      walk_at "gx"
      exact .inr ⟨v, rfl, ni.ext (ext_of e1), fun H2 e2 => q H2 (e1.trans e2)⟩
end
abbrev s__law_kinds : Stmt := topS 40
abbrev s__law_refused : Stmt := topS 41
/-- the six errors' classes, by the laws' numbers -/
structure Kinds (K : PySem.W.Frag) (mg : Str → Option Value) (CD : Addr) (C : Nat → Addr) : Prop where
  g0 : mg "BadTurners" = some (.ref (C 0))
  g1 : mg "BadDoor" = some (.ref (C 1))
  g2 : mg "BadCount" = some (.ref (C 2))
  g3 : mg "BadDoors" = some (.ref (C 3))
  g4 : mg "BadStretch" = some (.ref (C 4))
  g5 : mg "TooMany" = some (.ref (C 5))
  gD : mg "DoorError" = some (.ref CD)
  ex : ∀ i, i < 6 → ExcC K (C i)
  kit : ∀ i, i < 6 → ∀ j, j < 6 → PySem.W.kitOne K (.ref (C i)) (.ref (C j)) = some (decide (i = j))
  kv : ∀ i, i < 6 → PySem.W.kitOne K (.ref (C i)) (.type "ValueError") = some true
  met : ∀ i, i < 6 → PySem.W.exmOne K (.ref (C i)) (.ref CD) = some true
def flags (i : Nat) : List Bool := [decide (i = 0), decide (i = 1), decide (i = 2), decide (i = 3), decide (i = 4), decide (i = 5), true]
section
variable {P : Program} {w : World} {K : PySem.W.Frag} {mg : Str → Option Value} {base : Heap} {CD : Addr} {C : Nat → Addr}
def spKinds (C : Nat → Addr) (a D : Addr) : Sp := fun vs H Q _ => ∃ i, i < 6 ∧ D = C i ∧ vs = [.ref a] ∧ RetL ((flags i).map V.bl) H Q
theorem is_kind {H : Hp} {Q : VK} {p : Addr × Obj} {i j : Nat} (k : Kinds K mg CD C) (hi : i < 6) (hj : j < 6) (er : Errs p (C i)) (q : Q (.bl (decide (i = j))) H) : ∃ D, Errs p D ∧ ExcC K D ∧ rIsE K D p.1 [.ref p.1, .ref (C j)] H Q :=
  ⟨C i, er, k.ex i hi, .ref (C j), .ref (C j), _, rfl, fun u r => r, k.kit i hi j hj, q⟩
theorem ok__law_kinds (k : Kinds K mg CD C) (F : Df K mg "_law_kinds" s__law_kinds ["_law_error"]) (B : Blt mg) : CalE P w K mg base 1 "_law_kinds" (spKinds C) := by
  have gC_BadTurners := k.g0
  have gC_BadDoor := k.g1
  have gC_BadCount := k.g2
  have gC_BadDoors := k.g3
  have gC_BadStretch := k.g4
  have gC_TooMany := k.g5
  have sc : FnScope ["_law_error", "_law_found"] ["_law_error"] (defScope s__law_kinds) := ⟨rfl, rfl, rfl, by decide +kernel, rfl, by decide +kernel, by decide +kernel⟩
  refine F.okE sc (fun a D vs H Q E h => ?_) (fun f cdv A outer s H vs Q E p D hot er hr h => ?_)
  · obtain ⟨i, hi, rfl, rfl, _⟩ := h
    rfl
  · obtain ⟨i, hi, rfl, rfl, q⟩ := h
    have hf : ∃ vs, p.2.data = .fields vs := by
      obtain ⟨vs, hv, _⟩ := hot.2
      exact ⟨vs, hv⟩
    refine ⟨_, (pss_cons (ps_set (i := 1) sc.nd rfl (by first | exact Or.inl rfl | exact Or.inr rfl) (pe_lst (pa_cons (pe_callB (call_isP (pe := p) (List.mem_singleton.mpr rfl) hf) (by rfl) B.isinstance_ boot_isinstance (pa_cons (pv 0) (pa_cons (pe_glob (v := .ref _) (by rfl) gC_BadTurners rfl) pa_nil))) (pa_cons (pe_callB (call_isP (pe := p) (List.mem_singleton.mpr rfl) hf) (by rfl) B.isinstance_ boot_isinstance (pa_cons (pv 0) (pa_cons (pe_glob (v := .ref _) (by rfl) gC_BadDoor rfl) pa_nil))) (pa_cons (pe_callB (call_isP (pe := p) (List.mem_singleton.mpr rfl) hf) (by rfl) B.isinstance_ boot_isinstance (pa_cons (pv 0) (pa_cons (pe_glob (v := .ref _) (by rfl) gC_BadCount rfl) pa_nil))) pa_nil)))))
      (pss_cons (ps_set (i := 1) sc.nd rfl (by first | exact Or.inl rfl | exact Or.inr rfl) (pe_op op_cat (pv 1) (pe_lst (pa_cons (pe_callB (call_isP (pe := p) (List.mem_singleton.mpr rfl) hf) (by rfl) B.isinstance_ boot_isinstance (pa_cons (pv 0) (pa_cons (pe_glob (v := .ref _) (by rfl) gC_BadDoors rfl) pa_nil))) (pa_cons (pe_callB (call_isP (pe := p) (List.mem_singleton.mpr rfl) hf) (by rfl) B.isinstance_ boot_isinstance (pa_cons (pv 0) (pa_cons (pe_glob (v := .ref _) (by rfl) gC_BadStretch rfl) pa_nil))) (pa_cons (pe_callB (call_isP (pe := p) (List.mem_singleton.mpr rfl) hf) (by rfl) B.isinstance_ boot_isinstance (pa_cons (pv 0) (pa_cons (pe_glob (v := .ref _) (by rfl) gC_TooMany rfl) pa_nil))) pa_nil))))))
      (pss_one (ps_ret (pe_op op_cat (pv 1) (pe_lst (pa_cons (pe_callB (call_isP (pe := p) (List.mem_singleton.mpr rfl) hf) (by rfl) B.isinstance_ boot_isinstance (pa_cons (pv 0) (pa_cons (pe_bltn (v := .ty "ValueError") (by rfl) B.ValueError_ (by decide +kernel) rfl) pa_nil))) pa_nil))))))), ?_⟩
    walk_at "go"
    refine is_kind k hi (j := 0) (by decide) er ?_
    walk_at "go"
    refine is_kind k hi (j := 1) (by decide) er ?_
    walk_at "go"
    refine is_kind k hi (j := 2) (by decide) er ?_
    walk_at "go"
    refine ⟨by show 3 ≤ sizeLine; decide, fun l1 n1 => ?_⟩
    walk_at "go"
    refine is_kind k hi (j := 3) (by decide) er ?_
    walk_at "go"
    refine is_kind k hi (j := 4) (by decide) er ?_
    walk_at "go"
    refine is_kind k hi (j := 5) (by decide) er ?_
    walk_at "go"
    refine ⟨by show 3 ≤ sizeLine; decide, fun l2 n2 => ?_⟩
    walk_at "go"
    refine c_cat (Ex.new n2 _ _ upd_same) upd_same (by show 3 + 3 ≤ 100000; decide) fun l3 n3 => ?_
    walk_at "go"
    refine ⟨C i, er, k.ex i hi, .ty "ValueError", .type "ValueError", true, rfl, fun u r => r, k.kv i hi, ?_⟩
    walk_at "go"
    refine ⟨by show 1 ≤ sizeLine; decide, fun l4 n4 => ?_⟩
    walk_at "go"
    refine c_cat (Ex.new n4 _ _ upd_same) upd_same (by show 6 + 1 ≤ 100000; decide) fun l5 n5 => ?_
    refine q l5 _ ?_ ?_ upd_same
    · exact fresh_back ((((Ex.new n1).trans (Ex.new n2)).trans (Ex.new n3)).trans (Ex.new n4)) n5
    · exact ((((Ex.new n1).trans (Ex.new n2)).trans (Ex.new n3)).trans (Ex.new n4)).trans (Ex.new n5)
def spRefused (P : Program) (w : World) (K : PySem.W.Frag) (mg : Str → Option Value) (base : Heap) (C : Nat → Addr) : Sp := fun vs H Q _ => ∃ (f : Addr) (v : V) (i : Nat), i < 6 ∧ vs = [.ref f, v, .int i] ∧ Asks P w K mg base 5 f H (spRef H v (C i)) ∧ RetV (.bl true) H Q
theorem ok__law_refused (k : Kinds K mg CD C) (F : Df K mg "_law_refused" s__law_refused ["_law_ask", "_law_thing", "_law_due"]) (B : Blt mg) (z__law_kinds : CalE P w K mg base 1 "_law_kinds" (spKinds C)) : Cal P w K mg base CX0 6 "_law_refused" (spRefused P w K mg base C) := by
  have gC_DoorError := k.gD
  have sc : FnScope ["_law_ask", "_law_thing", "_law_due", "_law_error", "_law_kind"] ["_law_ask", "_law_thing", "_law_due"] (defScope s__law_refused) := ⟨rfl, rfl, rfl, by decide +kernel, rfl, by decide +kernel, by decide +kernel⟩
  refine F.ok sc (fun vs H Q E h => ?_) (fun f cdv A outer s H vs Q E hr h => ?_)
  · obtain ⟨f, v, i, hi, rfl, _⟩ := h
    rfl
  · obtain ⟨af, v, i, hi, rfl, as, q⟩ := h
    refine ⟨_, (pss_cons (L2N.ps_try_as (i := 3) rfl rfl sc.nd rfl rfl ⟨rfl, by decide, .inl gC_DoorError⟩ takesN (fun W pn xe tk _ => (pss_one (ps_expr (show PE _ _ (tAsk P w K mg base 5 0 W _) from pe_ask (k := 5) (i := 0) hr (by decide) tk rfl (by first | exact .inl rfl | exact .inr (.inl rfl)) (pa_cons (pv 1) pa_nil))))) (fun a oe cls d pn hz hf => (pss_one (ps_ret (pe_cmpR (show OpR _ _ (rEqD K) from op_eqD hr.units) (pe_dz z__law_kinds hr (by decide) hz hf (by rfl) (pa_cons (pv 3) pa_nil)) (pe_op op_cat (pe_lcHot (p := (a, oe)) (own := [("_law_kind", 4)]) (g := (gName 4)) sc.nd (hot_of hz hf) List.mem_cons_self (L2H.pi_range1H (by rfl) B.range_ (pa_cons pe_int pa_nil)) (blkOk_by (own := [("_law_kind", 4)]) (N := ["_law_ask", "_law_thing", "_law_due", "_law_error", "_law_kind"]) (sc := defScope s__law_refused) (by decide +kernel)) (fun _ _ _ _ _ => (pg_name (i := 4) sc.nd rfl (by first | exact Or.inl rfl | exact Or.inr rfl))) (fun _ _ _ _ _ => (pe_cmpR op_eq (pv 4) (pv 2) (nomark _)))) (pe_lst (pa_cons pe_bl pa_nil))) (nomark _))))))
      (pss_one (ps_ret pe_bl))), ?_⟩
    walk_at "go"
    refine ⟨af, spRef H v (C i), rfl, as, v, rfl, rfl, rfl, rfl, fun H2 e2 => ?_⟩
    refine ⟨true, k.met i hi, fun _ ea nea => ?_, fun z => Bool.noConfusion z⟩
    walk_at "go"
    refine ⟨C i, rfl, rfl, .ref ea, rfl, i, hi, rfl, rfl, fun kl H3 nkl e3 hkl => ?_⟩
    walk_at "go"
    refine el_lcR1 (σ := [some (.ref af), some v, some (.int i), some (.ref ea), none]) (n := 6) (fun _ => true) (fun j => V.bl (decide ((j : Int) = (i : Int)))) (fun H4 e4 Q4 kk => ?_) (by decide) (fun x => rfl) (fun j H4 e4 hj => ?_) (fun j H4 e4 hj _ => ?_) H3 (Ex.refl H3) _ (fun p4 H4 hp4 e4 h4 => ?_)
    · walk_at "go"
      exact kk H4 (Ex.refl H4)
    · exact fun H5 _ QB kk => kk H5 (Ex.refl H5)
    · intro H5 e5 Q5 kk
      walk_at "go"
      exact kk H5 (Ex.refl H5)
    walk_at "go"
    refine ⟨by show 1 ≤ sizeLine; decide, fun l6 n6 => ?_⟩
    walk_at "go"
    refine c_cat (Ex.new n6 _ _ h4) upd_same (by show 6 + 1 ≤ 100000; decide) fun l7 n7 => ?_
    have e37 := e4.trans ((Ex.new (o := .lst [.bl true]) n6).trans (Ex.new (o := .lst (given (6 : Int).toNat (fun _ => true) (fun j => V.bl (decide ((j : Int) = (i : Int)))) ++ [.bl true])) n7))
    refine c_eqBs (xs := flags i) (ys := flags i) (.inl (.inl (e37 _ _ hkl))) (.inl (.inl (by
      rw [upd_same]
      have hc : i = 0 ∨ i = 1 ∨ i = 2 ∨ i = 3 ∨ i = 4 ∨ i = 5 := by omega
      rcases hc with z | z | z | z | z | z <;> subst z <;> rfl))) ?_
    rw [decide_eq_true rfl]
    exact q _ (e2.trans (e3.trans e37))
end
abbrev s__law_plain : Stmt := topS 42
abbrev s__law_truths : Stmt := topS 43
section
open LamX
variable {P : Program} {w : World} {K : PySem.W.Frag} {mg : Str → Option Value} {base : Heap}
/-- whole numbers, within lists of lists, so deep -/
def Pln (K : PySem.W.Frag) : Nat → Hp → V → Prop
  | 0, _, _ => False
  | n + 1, H, v => (∃ m : Int, v = .int m) ∨ ∃ (a : Addr) (vs : List V), v = .ref a ∧ SqL K H a vs ∧ vs.length ≤ 2000 ∧ ∀ x ∈ vs, Pln K n H x
theorem Pln.ext {H H' : Hp} (e : ExtN H H') : ∀ {n : Nat} {v : V}, Pln K n H v → Pln K n H' v
  | 0, _, h => h.elim
  | n + 1, v, h => by
    rcases h with h | ⟨a, vs, r, s, l, al⟩
    · exact .inl h
    · exact .inr ⟨a, vs, r, sqL_ext e s, l, fun x hx => Pln.ext e (al x hx)⟩
theorem Pln.ints {H : Hp} {n : Nat} {a : Addr} {ns : List Int} (h : SqL K H a (ns.map V.int)) (hl : ns.length ≤ 2000) : Pln K (n + 2) H (.ref a) := .inr ⟨a, _, rfl, h, by rw [List.length_map]; exact hl, fun x hx => by
  obtain ⟨m, _, rfl⟩ := List.mem_map.mp hx
  exact .inl ⟨m, rfl⟩⟩
def spPl (K : PySem.W.Frag) (n : Nat) : Sp := fun vs H Q _ => ∃ v, vs = [v] ∧ Pln K n H v ∧ RetV (.bl true) H Q
theorem Df.zero {x : Str} {st : Stmt} {ps : List Str} (F : Df K mg x st ps) : Cal P w K mg base CX0 0 x (spPl K 0) := by
  obtain ⟨f, fd, F, m, b⟩ := F.ex
  refine ⟨f, fd, ps, ⟨fun vs H Q E h => ?_, fun A outer s H args us vs Q E hr e0 hb rv h => ?_⟩, m, F.kp, b⟩
  · obtain ⟨v, _, h, _⟩ := h
    exact h.elim
  · obtain ⟨v, _, h, _⟩ := h
    exact h.elim
theorem k_it : kitB "int" "tuple" = some false := by decide +kernel
theorem k_is : kitB "int" "str" = some false := by decide +kernel
theorem ok__law_plain (F : Df K mg "_law_plain" s__law_plain ["_law_thing"]) (B : Blt mg) {n : Nat} (c__law_plain : Cal P w K mg base CX0 n "_law_plain" (spPl K n)) : Cal P w K mg base CX0 (n + 1) "_law_plain" (spPl K (n + 1)) := by
  have sc : FnScope ["_law_thing", "_law_one"] ["_law_thing"] (defScope s__law_plain) := ⟨rfl, rfl, rfl, by decide +kernel, rfl, by decide +kernel, by decide +kernel⟩
  refine F.ok sc (fun vs H Q E h => ?_) (fun f cdv A outer s H vs Q E hr h => ?_)
  · obtain ⟨v, rfl, _⟩ := h
    rfl
  · obtain ⟨v, rfl, pl, q⟩ := h
    refine ⟨_, (pss_cons (ps_if (PW.pt (pw_or (pt_val (pe_callB call_isi (by rfl) B.isinstance_ boot_isinstance (pa_cons (pv 0) (pa_cons (pe_bltn (v := .ty "list") (by rfl) B.list_ boot_list rfl) pa_nil)))) (pw_or1 (pt_val (pe_callB call_isi (by rfl) B.isinstance_ boot_isinstance (pa_cons (pv 0) (pa_cons (pe_bltn (v := .ty "tuple") (by rfl) B.tuple_ boot_tuple rfl) pa_nil)))))))
      (pss_one (ps_ret (pe_callB (cr_all rfl) (by rfl) B.all_ boot_all (pa_cons (pe_lc (own := [("_law_one", 1)]) (g := (gName 1)) (by rfl) sc.nd (pi_list (pv 0)) (blkOk_by (own := [("_law_one", 1)]) (N := ["_law_thing", "_law_one"]) (sc := defScope s__law_plain) (by decide +kernel)) (fun _ _ _ _ _ => (pg_name (i := 1) sc.nd rfl (by first | exact Or.inl rfl | exact Or.inr rfl))) (fun _ _ _ _ _ => pts_nil) (fun _ _ _ _ _ => (pe_d c__law_plain hr (Nat.le_refl _) (by rfl) (pa_cons (pv 1) pa_nil)))) pa_nil)))) pss_nil)
      (pss_one (ps_ret (pe_or (pe_cmpR op_isN (pv 0) pe_non (nomark _)) (pe_or (pe_callB call_isi (by rfl) B.isinstance_ boot_isinstance (pa_cons (pv 0) (pa_cons (pe_bltn (v := .ty "str") (by rfl) B.str_ boot_str rfl) pa_nil))) (pe_one (pe_and (pe_callB call_isi (by rfl) B.isinstance_ boot_isinstance (pa_cons (pv 0) (pa_cons (pe_bltn (v := .ty "int") (by rfl) B.int_ boot_int rfl) pa_nil))) (pe_one (pe_not (pe_callB call_isi (by rfl) B.isinstance_ boot_isinstance (pa_cons (pv 0) (pa_cons (pe_bltn (v := .ty "bool") (by rfl) B.bool_ boot_bool rfl) pa_nil)))))))))))), ?_⟩
    rcases pl with ⟨m, rfl⟩ | ⟨a, vs, rfl, hS, hl, al⟩
    · walk_at "go"
      refine c_isi (.base (.int m)) k_il ?_
      walk_at "go"
      refine c_isi (.base (.int m)) k_it ?_
      walk_at "go"
      refine ⟨rfl, ?_⟩
      rw [show decide (V.int m = V.non) = false from decide_eq_false (fun z => by cases z)]
      walk_at "go"
      refine c_isi (.base (.int m)) k_is ?_
      walk_at "go"
      exact q _ (Ex.refl H)
    · walk_at "go"
      refine c_isiL hS ?_
      walk_at "go"
      refine el_lcL (K := K) (σ := [some (.ref a), none]) (fun _ => true) (fun _ => V.bl true) (ev_var rfl) hS (by omega) (fun x => rfl) (fun j x H1 e1 hx => ?_) (fun j x H1 e1 hx _ => ?_) H (Ex.refl H) _ (fun p H2 hp e2 h2 => ?_)
      · exact fun H2 _ QB k => k H2 (Ex.refl H2)
      · have hm := List.mem_of_getElem? hx
        intro H2 e2 Q2 k
        walk_at "go"
        exact ⟨x, rfl, Pln.ext (ext_of (e1.trans e2)) (al x hm), k⟩
      · rw [given_true vs.length fun _ => true] at h2
        walk_at "go"
        refine c_all (.inl (.inl h2)) ?_
        rw [show ((List.range vs.length).map fun _ => true).all id = true from List.all_eq_true.mpr fun x hx => by
          obtain ⟨_, _, rfl⟩ := List.mem_map.mp hx
          rfl]
        exact q _ e2
def spTruths (K : PySem.W.Frag) : Sp := fun vs H Q _ => ∃ (a : Addr) (bs : List Bool), vs = [.ref a] ∧ SqL K H a (bs.map V.bl) ∧ bs.length ≤ 1000 ∧ RetV (.bl true) H Q
theorem ok__law_truths (F : Df K mg "_law_truths" s__law_truths ["_law_things"]) (B : Blt mg) : Cal P w K mg base CX0 1 "_law_truths" (spTruths K) := by
  have sc : FnScope ["_law_things", "_law_one"] ["_law_things"] (defScope s__law_truths) := ⟨rfl, rfl, rfl, by decide +kernel, rfl, by decide +kernel, by decide +kernel⟩
  refine F.ok sc (fun vs H Q E h => ?_) (fun f cdv A outer s H vs Q E hr h => ?_)
  · obtain ⟨a, bs, rfl, _⟩ := h
    rfl
  · obtain ⟨a, bs, rfl, hS, hl, q⟩ := h
    refine ⟨_, (pss_one (ps_ret (pe_callB (cr_all rfl) (by rfl) B.all_ boot_all (pa_cons (pe_lc (own := [("_law_one", 1)]) (g := (gName 1)) (by rfl) sc.nd (pi_list (pv 0)) (blkOk_by (own := [("_law_one", 1)]) (N := ["_law_things", "_law_one"]) (sc := defScope s__law_truths) (by decide +kernel)) (fun _ _ _ _ _ => (pg_name (i := 1) sc.nd rfl (by first | exact Or.inl rfl | exact Or.inr rfl))) (fun _ _ _ _ _ => pts_nil) (fun _ _ _ _ _ => (pe_callB (show CallR _ _ (rIsi K) from call_isi) (by rfl) B.isinstance_ boot_isinstance (pa_cons (pv 1) (pa_cons (pe_bltn (v := .ty "bool") (by rfl) B.bool_ boot_bool rfl) pa_nil))))) pa_nil)))), ?_⟩
    walk_at "go"
    refine el_lcL (K := K) (σ := [some (.ref a), none]) (fun _ => true) (fun _ => V.bl true) (ev_var rfl) hS (by rw [List.length_map]; omega) (fun x => rfl) (fun j x H1 e1 hx => ?_) (fun j x H1 e1 hx _ => ?_) H (Ex.refl H) _ (fun p H2 hp e2 h2 => ?_)
    · exact fun H2 _ QB k => k H2 (Ex.refl H2)
    · obtain ⟨b, _, rfl⟩ := List.mem_map.mp (List.mem_of_getElem? hx)
      intro H2 e2 Q2 k
      walk_at "go"
      exact k H2 (Ex.refl H2)
    · rw [given_true _ fun _ => true] at h2
      walk_at "go"
      refine c_all (.inl (.inl h2)) ?_
      rw [show ((List.range (bs.map V.bl).length).map fun _ => true).all id = true from List.all_eq_true.mpr fun x hx => by
        obtain ⟨_, _, rfl⟩ := List.mem_map.mp hx
        rfl]
      exact q _ e2
end
abbrev s__law_known_right : Stmt := topS 44
section
open LamX
variable {P : Program} {w : World} {K : PySem.W.Frag} {mg : Str → Option Value} {base : Heap} {CD : Addr} {C : Nat → Addr}
theorem good_of {ts : List Int} (h1 : ts.length ≤ 40) (h2 : ∀ t ∈ ts, 1 ≤ t) : Good ts := ⟨h1, h2⟩
theorem ext_new {H : Hp} {p : Addr} {o : HO} (h : H p = none) : ExtN H (upd H p o) := ExtN.of (Ex.new h)
theorem lam_ext {H H' : Hp} {f : Addr} {F : LF} (x : ExtN H H') (h : H f = some (LamO f F)) : H' f = some (LamO f F) := x _ _ h lamO_ne
theorem code_ext {H H' : Hp} {c : Addr} {z : Str} (x : ExtN H H') (h : H c = some (CodeO c z)) : H' c = some (CodeO c z) := x _ _ h codeO_ne
theorem lst_ext {H H' : Hp} {a : Addr} {vs : List V} (x : ExtN H H') (h : H a = some (.lst vs)) : H' a = some (.lst vs) := x _ _ h fun ps z => by cases z
/-- a row: a count, doors, the turners that are due -/
structure RowIs (n : Nat) (D F : List Int) : Prop where
  most : n ≤ 1000
  rise : D.Pairwise (· < ·)
  rng : ∀ x ∈ D, 1 ≤ x ∧ x ≤ n
  br : Brings n D F
  len : F.length ≤ 2000
def RowAt (K : PySem.W.Frag) (H : Hp) (v : V) : Prop := ∃ (tp a b : Addr) (n : Nat) (D F : List Int), v = .ref tp ∧ H tp = some (.tup [.int n, .ref a, .ref b]) ∧ SqL K H a (D.map V.int) ∧ SqL K H b (F.map V.int) ∧ RowIs n D F
theorem RowAt.mono {H H' : Hp} {v : V} (h : RowAt K H v) (e : Ex H H') : RowAt K H' v := by
  obtain ⟨tp, a, b, n, D, F, r, h1, h2, h3, h4⟩ := h
  exact ⟨tp, a, b, n, D, F, r, e _ _ h1, ex_l e h2, ex_l e h3, h4⟩
theorem row_new {H : Hp} {a b t : Addr} {n : Nat} {D F : List Int} {ds fs : List V} {nv : V} (na : H a = none) (nb : (upd H a (.lst ds)) b = none) (nt : (upd (upd H a (.lst ds)) b (.lst fs)) t = none) (r : RowIs n D F) (hd : ds = D.map V.int) (hf : fs = F.map V.int) (hn : nv = .int n) :
    RowAt K (upd (upd (upd H a (.lst ds)) b (.lst fs)) t (.tup [nv, .ref a, .ref b])) (.ref t) ∧ Ex H (upd (upd (upd H a (.lst ds)) b (.lst fs)) t (.tup [nv, .ref a, .ref b])) := by
  subst hd hf hn
  exact ⟨⟨t, a, b, n, D, F, rfl, upd_same, .inl (.inl (((Ex.new nb).trans (Ex.new nt)) _ _ upd_same)), .inl (.inl (Ex.new nt _ _ upd_same)), r⟩, ((Ex.new na).trans (Ex.new nb)).trans (Ex.new nt)⟩
theorem row0 : RowIs 10 [1, 4, 9] (upto 10) := ⟨by decide, by decide, by decide, brings_by (by decide +kernel), by decide⟩
theorem row1 : RowIs 6 [3] [3, 6] := ⟨by decide, by decide, by decide, brings_by (by decide +kernel), by decide⟩
theorem row2 : RowIs 5 [3] [3] := ⟨by decide, by decide, by decide, brings_by (by decide +kernel), by decide⟩
theorem row3 : RowIs 0 [] [] := ⟨by decide, by decide, by decide, brings_by (by decide +kernel), by decide⟩
theorem row4 {k : Nat} (h1 : 1 ≤ k) (h2 : k ≤ 40) : RowIs k (upto k) [1] := ⟨by omega, upto_rise k, fun x hx => mem_upto.mp hx, ⟨by simp, (fun x hx => by
  have : x = 1 := by simpa using hx
  omega), opens_all k⟩, by decide⟩
def spKR (T : List (Addr × Str)) : Sp := fun vs H Q _ => ∃ k : Nat, vs = [.int k] ∧ 1 ≤ k ∧ k ≤ 40 ∧ Tabs T H ∧ ∀ H', ExtN H H' → Tabs T H' → Q (.bl true) H'
theorem ok__law_known_right {T : List (Addr × Str)} {Pt c : Addr} (F : DfC K mg "_law_known_right" s__law_known_right ["_law_many"] c)
    (TB : TabB base mg c Pt) (mT : (Pt, lamQ "_law_known_right") ∈ T) (uT : ∀ p ∈ T, p.1 = Pt → p.2 = lamQ "_law_known_right") (B : Blt mg)
    (c_turners_for : Cal P w K mg base CX0 2 "turners_for" (spBring K)) (c__law_plain : Cal P w K mg base CX0 3 "_law_plain" (spPl K 3)) (c_how_many : Cal P w K mg base CX0 3 "how_many" (spHow K)) (c_by_all : Cal P w K mg base CX0 2 "by_all" spRoot) (c_round_of : Cal P w K mg base CX0 3 "round_of" (spRound K)) (c_kept : Cal P w K mg base CX0 3 "kept" (spKept K))
    (c__law_refused : Cal P w K mg base CX0 6 "_law_refused" (spRefused P w K mg base C)) (x_how_many : CalX P w K mg base 3 "how_many" (spXHow K (C 0) (C 2) (C 5))) : Cal P w K mg base CX0 7 "_law_known_right" (spKR T) := by
  have sc : FnScope ["_law_many", "_law_rows", "_law_count", "_law_doors", "_law_due", "_law_found", "_law_at", "_law_twelve"] ["_law_many"] (defScope s__law_known_right) := ⟨rfl, rfl, rfl, by decide +kernel, rfl, by decide +kernel, by decide +kernel⟩
  refine F.ok sc (fun vs H Q E h => ?_) (fun f A outer s H vs Q E hr h => ?_)
  · obtain ⟨m, rfl, _⟩ := h
    rfl
  · obtain ⟨k, rfl, k1, k40, hT, q⟩ := h
    refine ⟨_, (pss_cons (ps_set (i := 1) sc.nd rfl (by first | exact Or.inl rfl | exact Or.inr rfl) (pe_lst (pa_cons (pe_tup (pa_cons pe_int (pa_cons (pe_lst (pa_cons pe_int (pa_cons pe_int (pa_cons pe_int pa_nil)))) (pa_cons (pe_listRg rfl (by rfl) B.list_ (prg_2 (by rfl) B.range_ pe_int pe_int)) pa_nil)))) (pa_cons (pe_tup (pa_cons pe_int (pa_cons (pe_lst (pa_cons pe_int pa_nil)) (pa_cons (pe_lst (pa_cons pe_int (pa_cons pe_int pa_nil))) pa_nil)))) (pa_cons (pe_tup (pa_cons pe_int (pa_cons (pe_lst (pa_cons pe_int pa_nil)) (pa_cons (pe_lst (pa_cons pe_int pa_nil)) pa_nil)))) (pa_cons (pe_tup (pa_cons pe_int (pa_cons (pe_lst pa_nil) (pa_cons (pe_lst pa_nil) pa_nil)))) pa_nil))))))
      (pss_cons (ps_set (i := 1) sc.nd rfl (by first | exact Or.inl rfl | exact Or.inr rfl) (pe_op op_cat (pv 1) (pe_lst (pa_cons (pe_tup (pa_cons (pv 0) (pa_cons (pe_listRg rfl (by rfl) B.list_ (prg_2 (by rfl) B.range_ pe_int (pe_op op_add (pv 0) pe_int))) (pa_cons (pe_lst (pa_cons pe_int pa_nil)) pa_nil)))) pa_nil))))
      (pss_cons (ps_for PassesOwn.never rfl (pi_list (pv 1)) (pg_tup rfl (pgs_cons (pg_name (i := 2) sc.nd rfl (by first | exact Or.inl rfl | exact Or.inr rfl)) (pgs_cons (pg_name (i := 3) sc.nd rfl (by first | exact Or.inl rfl | exact Or.inr rfl)) (pgs_cons (pg_name (i := 4) sc.nd rfl (by first | exact Or.inl rfl | exact Or.inr rfl)) pgs_nil))))
      (pss_cons (ps_set (i := 5) sc.nd rfl (by first | exact Or.inl rfl | exact Or.inr rfl) (pe_d c_turners_for hr (by decide) (by rfl) (pa_cons (pv 2) (pa_cons (pv 3) pa_nil))))
      (pss_cons (ps_if (PW.pt (pw_or (pt_cmpR (op_neD hr.units) (pv 5) (pv 4) (nomark _)) (pw_or1 (pt_not (pt_val (pe_d c__law_plain hr (by decide) (by rfl) (pa_cons (pv 5) pa_nil)))))))
      (pss_one (ps_ret pe_bl)) pss_nil)
      (pss_cons (ps_expr (pe_bm PySem.F.plainAttrs_list PySem.F.slot_list_append PySem.F.type_list_append mt_append (pv 5) (pa_cons pe_int pa_nil)))
      (pss_one (ps_if (pt_cmpR (op_neD hr.units) (pe_d c_turners_for hr (by decide) (by rfl) (pa_cons (pv 2) (pa_cons (pv 3) pa_nil))) (pv 4) (nomark _))
      (pss_one (ps_ret pe_bl)) pss_nil))))))
      (pss_cons (ps_if (pt_cmpR (op_neD hr.units) (pe_d c_turners_for hr (by decide) (by rfl) (pa_cons pe_int (pa_cons (pe_lc (own := [("_law_at", 6)]) (g := (gName 6)) (by rfl) sc.nd (pi_range2 (by rfl) B.range_ (pa_cons pe_int (pa_cons pe_int pa_nil))) (blkOk_by (own := [("_law_at", 6)]) (N := ["_law_many", "_law_rows", "_law_count", "_law_doors", "_law_due", "_law_found", "_law_at", "_law_twelve"]) (sc := defScope s__law_known_right) (by decide +kernel)) (fun _ _ _ _ _ => (pg_name (i := 6) sc.nd rfl (by first | exact Or.inl rfl | exact Or.inr rfl))) (fun _ _ _ _ _ => pts_nil) (fun _ _ _ _ _ => (pe_op op_mul (pv 6) (pv 6)))) pa_nil))) (pe_listRg rfl (by rfl) B.list_ (prg_2 (by rfl) B.range_ pe_int pe_int)) (nomark _))
      (pss_one (ps_ret pe_bl)) pss_nil)
      (pss_cons (ps_if (pt_cmpR op_ne (pe_d c_how_many hr (by decide) (by rfl) (pa_cons (pe_lst (pa_cons pe_int (pa_cons pe_int pa_nil))) (pa_cons (pe_op op_pow pe_int pe_int) pa_nil))) pe_int (nomark _))
      (pss_one (ps_ret pe_bl)) pss_nil)
      (pss_cons (ps_if (pt_cmpR (op_neD hr.units) (pe_lst (pa_cons (pe_d c_by_all hr (by decide) (by rfl) (pa_cons (pe_op op_pow pe_int pe_int) pa_nil)) (pa_cons (pe_d c_by_all hr (by decide) (by rfl) (pa_cons (pe_op op_sub (pe_op op_pow pe_int pe_int) pe_int) pa_nil)) (pa_cons (pe_d c_by_all hr (by decide) (by rfl) (pa_cons pe_int pa_nil)) (pa_cons (pe_d c_by_all hr (by decide) (by rfl) (pa_cons pe_int pa_nil)) pa_nil))))) (pe_lst (pa_cons (pe_op op_pow pe_int pe_int) (pa_cons (pe_op op_sub (pe_op op_pow pe_int pe_int) pe_int) (pa_cons pe_int (pa_cons pe_int pa_nil))))) (nomark _))
      (pss_one (ps_ret pe_bl)) pss_nil)
      (pss_cons (ps_if (pt_cmpR op_ne (pe_d c_round_of hr (by decide) (by rfl) (pa_cons (pe_listRg rfl (by rfl) B.list_ (prg_2 (by rfl) B.range_ pe_int pe_int)) pa_nil)) pe_int (nomark _))
      (pss_one (ps_ret pe_bl)) pss_nil)
      (pss_cons (ps_if (pt_cmpR (op_neD hr.units) (pe_lst (pa_cons (pe_d c_round_of hr (by decide) (by rfl) (pa_cons (pe_lst pa_nil) pa_nil)) (pa_cons (pe_d c_round_of hr (by decide) (by rfl) (pa_cons (pe_lst (pa_cons pe_int (pa_cons pe_int pa_nil))) pa_nil)) (pa_cons (pe_d c_round_of hr (by decide) (by rfl) (pa_cons (pe_lst (pa_cons pe_int (pa_cons pe_int pa_nil))) pa_nil)) pa_nil)))) (pe_lst (pa_cons pe_int (pa_cons pe_int (pa_cons pe_int pa_nil)))) (nomark _))
      (pss_one (ps_ret pe_bl)) pss_nil)
      (pss_cons (ps_set (i := 7) sc.nd rfl (by first | exact Or.inl rfl | exact Or.inr rfl) (pe_op op_cat (pe_listRg rfl (by rfl) B.list_ (prg_2 (by rfl) B.range_ pe_int pe_int)) (pe_op op_rep (pe_lst (pa_cons (pe_op op_add pe_int (pv 0)) pa_nil)) pe_int)))
      (pss_cons (ps_if (PW.pt (pw_or (pt_cmpR op_ne (pe_callB call_len_s (by rfl) B.len_ boot_len (pa_cons (pv 7) pa_nil)) pe_int (nomark _)) (pw_or1 (pt_cmpR (op_neD hr.units) (pe_d c_kept hr (by decide) (by rfl) (pa_cons (pv 7) pa_nil)) (pe_listRg rfl (by rfl) B.list_ (prg_2 (by rfl) B.range_ pe_int pe_int)) (nomark _)))))
      (pss_one (ps_ret pe_bl)) pss_nil)
      (pss_cons (ps_if (pt_not (pt_val (pe_d c__law_plain hr (by decide) (by rfl) (pa_cons (pe_lst (pa_cons (pe_d c_how_many hr (by decide) (by rfl) (pa_cons (pv 7) (pa_cons pe_int pa_nil))) (pa_cons (pe_d c_kept hr (by decide) (by rfl) (pa_cons (pv 7) pa_nil)) pa_nil))) pa_nil))))
      (pss_one (ps_ret pe_bl)) pss_nil)
      (pss_one (ps_ret (pe_and (pe_d c__law_refused hr (by decide) (by rfl) (pa_cons (pe_lam (T := T) TB rfl mT uT rfl (by decide +kernel)) (pa_cons pe_int (pa_cons pe_int pa_nil)))) (pe_one (pe_cmpR op_eq (pe_d c_how_many hr (by decide) (by rfl) (pa_cons (pv 7) (pa_cons pe_int pa_nil))) pe_int (nomark _))))))))))))))))), ?_⟩
    walk_at "gm"
    refine ⟨by show 3 ≤ sizeLine; decide, fun a0 na0 => ?_⟩
    walk_at "gm"
    refine c_lstRg (c_rg2 ?_)
    walk_at "gm"
    refine ⟨1, 11, rfl, rfl, ⟨by omega, by omega, by omega, by omega, by decide⟩, fun b0 nb0 => ?_⟩
    rw [show rgV 1 11 = (upto 10).map V.int from rgV_upto 10]
    walk_at "gm"
    refine ⟨by show 3 ≤ sizeLine; decide, fun t0 nt0 => ?_⟩
    obtain ⟨r0, e0⟩ := row_new (K := K) (nv := .int 10) na0 nb0 nt0 row0 rfl rfl rfl
    generalize upd (upd (upd H a0 (.lst [.int 1, .int 4, .int 9])) b0 (.lst ((upto 10).map V.int))) t0 (.tup [.int 10, .ref a0, .ref b0]) = H0 at r0 e0 ⊢
    clear na0 nb0 nt0
    walk_at "gm"
    refine ⟨by show 1 ≤ sizeLine; decide, fun a1 na1 => ?_⟩
    walk_at "gm"
    refine ⟨by show 2 ≤ sizeLine; decide, fun b1 nb1 => ?_⟩
    walk_at "gm"
    refine ⟨by show 3 ≤ sizeLine; decide, fun t1 nt1 => ?_⟩
    obtain ⟨r1, e1⟩ := row_new (K := K) (nv := .int 6) na1 nb1 nt1 row1 rfl rfl rfl
    generalize upd (upd (upd H0 a1 (.lst [.int 3])) b1 (.lst [.int 3, .int 6])) t1 (.tup [.int 6, .ref a1, .ref b1]) = H1 at r1 e1 ⊢
    clear na1 nb1 nt1
    walk_at "gm"
    refine ⟨by show 1 ≤ sizeLine; decide, fun a2 na2 => ?_⟩
    walk_at "gm"
    refine ⟨by show 1 ≤ sizeLine; decide, fun b2 nb2 => ?_⟩
    walk_at "gm"
    refine ⟨by show 3 ≤ sizeLine; decide, fun t2 nt2 => ?_⟩
    obtain ⟨r2, e2⟩ := row_new (K := K) (nv := .int 5) na2 nb2 nt2 row2 rfl rfl rfl
    generalize upd (upd (upd H1 a2 (.lst [.int 3])) b2 (.lst [.int 3])) t2 (.tup [.int 5, .ref a2, .ref b2]) = H2 at r2 e2 ⊢
    clear na2 nb2 nt2
    walk_at "gm"
    refine ⟨Nat.zero_le _, fun a3 na3 => ?_⟩
    walk_at "gm"
    refine ⟨Nat.zero_le _, fun b3 nb3 => ?_⟩
    walk_at "gm"
    refine ⟨by show 3 ≤ sizeLine; decide, fun t3 nt3 => ?_⟩
    obtain ⟨r3, e3⟩ := row_new (K := K) (nv := .int 0) na3 nb3 nt3 row3 rfl rfl rfl
    generalize upd (upd (upd H2 a3 (.lst [])) b3 (.lst [])) t3 (.tup [.int 0, .ref a3, .ref b3]) = H3 at r3 e3 ⊢
    clear na3 nb3 nt3
    walk_at "gm"
    refine ⟨by show 4 ≤ sizeLine; decide, fun lr nlr => ?_⟩
    have el := Ex.new (o := .lst [.ref t0, .ref t1, .ref t2, .ref t3]) nlr
    have hlr : (upd H3 lr (.lst [.ref t0, .ref t1, .ref t2, .ref t3])) lr = some (.lst [.ref t0, .ref t1, .ref t2, .ref t3]) := upd_same
    generalize upd H3 lr (.lst [.ref t0, .ref t1, .ref t2, .ref t3]) = H3b at el hlr ⊢
    walk_at "gm"
    refine c_lstRg (c_rg2 ?_)
    walk_at "gm"
    refine ⟨1, (k : Int) + 1, rfl, rfl, ⟨by omega, by omega, by omega, by omega, by omega⟩, fun a4 na4 => ?_⟩
    rw [rgV_upto]
    walk_at "gm"
    refine ⟨by show 1 ≤ sizeLine; decide, fun b4 nb4 => ?_⟩
    walk_at "gm"
    refine ⟨by show 3 ≤ sizeLine; decide, fun t4 nt4 => ?_⟩
    obtain ⟨r4, e4⟩ := row_new (K := K) (nv := .int k) na4 nb4 nt4 (row4 k1 k40) rfl rfl rfl
    generalize upd (upd (upd H3b a4 (.lst ((upto k).map V.int))) b4 (.lst [.int 1])) t4 (.tup [.int k, .ref a4, .ref b4]) = H4 at r4 e4 ⊢
    clear na4 nb4 nt4
    walk_at "gm"
    refine ⟨by show 1 ≤ sizeLine; decide, fun ls nls => ?_⟩
    refine c_cat (Ex.new nls _ _ (e4 _ _ hlr)) upd_same (by show 4 + 1 ≤ 100000; decide) fun lt nlt => ?_
    have es := (Ex.new (o := .lst [.ref t4]) nls).trans (Ex.new (o := .lst ([.ref t0, .ref t1, .ref t2, .ref t3] ++ [.ref t4])) nlt)
    have hlt : (upd (upd H4 ls (.lst [.ref t4])) lt (.lst ([.ref t0, .ref t1, .ref t2, .ref t3] ++ [.ref t4]))) lt = some (.lst [.ref t0, .ref t1, .ref t2, .ref t3, .ref t4]) := upd_same
    generalize upd (upd H4 ls (.lst [.ref t4])) lt (.lst ([.ref t0, .ref t1, .ref t2, .ref t3] ++ [.ref t4])) = H5 at es hlt ⊢
    have u4 := es
    have u3 := el.trans (e4.trans u4)
    have u2 := e3.trans u3
    have u1 := e2.trans u2
    have u0 := e1.trans u1
    have eH5 := e0.trans u0
    have rows : ∀ x ∈ [V.ref t0, .ref t1, .ref t2, .ref t3, .ref t4], RowAt K H5 x := by
      intro x hx
      simp only [List.mem_cons, List.not_mem_nil, or_false] at hx
      rcases hx with rfl | rfl | rfl | rfl | rfl
      · exact r0.mono u0
      · exact r1.mono u1
      · exact r2.mono u2
      · exact r3.mono u3
      · exact r4.mono u4
    clear r0 r1 r2 r3 r4 e0 e1 e2 e3 e4 el es u0 u1 u2 u3 u4 nls nlt nlr hlr
    walk_at "gm"
    refine ⟨lt, rfl, ⟨_, .inl (.inl hlt)⟩, f_list (K := K) (a := lt) (xs := [.ref t0, .ref t1, .ref t2, .ref t3, .ref t4]) (fun i σ H' => ∃ y2 y3 y4 y5, σ = [some (.int k), some (.ref lt), y2, y3, y4, y5, none, none] ∧ Ex H5 H') ⟨_, _, _, _, rfl, Ex.refl _⟩ (fun i σ H' _ h => by obtain ⟨_, _, _, _, _, e⟩ := h; exact .inl (.inl (e _ _ hlt))) (fun i x σ Hd hx h => ?_) (fun σ Hd h => ?_)⟩
    · obtain ⟨y2, y3, y4, y5, rfl, ed⟩ := h
      obtain ⟨tp, a, b, n, D, Fs, rfl, htp, ha, hb, R⟩ := (rows x (List.mem_of_getElem? hx)).mono ed
      refine ⟨tp, _, rfl, .inl (.inl htp), rfl, _, _, rfl, _, _, rfl, _, _, rfl, rfl, ?_⟩
      walk_at "gm"
      refine ⟨a, D, n, rfl, ha, R.most, R.rise, R.rng, fun F1 hF1 p1 Hx np1 ex hp1 => ?_⟩
      have eF := brings_uniq R.br hF1
      subst eF
      walk_at "gm"
      refine c_neL (xs := Fs) (ys := Fs) (.inl (.inl hp1)) (ex_l ex hb) ?_
      rw [decide_eq_true (rfl : Fs = Fs)]
      walk_at "gm"
      refine ⟨.ref p1, rfl, Pln.ints (.inl (.inl hp1)) R.len, fun Hy ey => ?_⟩
      walk_at "gm"
      refine ⟨tyLl (.inl (.inl (ey _ _ hp1))), ?_⟩
      walk_at "gm"
      refine c_app (ey _ _ hp1) (by rw [List.length_map]; have := R.len; omega) ?_
      have em := (ex.trans ey).mut (o := .lst (Fs.map V.int ++ [.int 0])) np1
      generalize upd Hy p1 (.lst (Fs.map V.int ++ [.int 0])) = Hz at em ⊢
      walk_at "gm"
      refine ⟨a, D, n, rfl, ex_l em ha, R.most, R.rise, R.rng, fun F2 hF2 p2 Hw np2 ew hp2 => ?_⟩
      have eF := brings_uniq R.br hF2
      subst eF
      walk_at "gm"
      refine c_neL (xs := Fs) (ys := Fs) (.inl (.inl hp2)) (ex_l (em.trans ew) hb) ?_
      rw [decide_eq_true (rfl : Fs = Fs)]
      walk_at "gm"
      exact ⟨_, _, _, _, rfl, ed.trans (em.trans ew)⟩
    · obtain ⟨y2, y3, y4, y5, rfl, ed⟩ := h
      have eHd := eH5.trans ed
      clear rows hlt eH5 ed
      walk_at "gm"
      refine el_lcR2 (σ := [some (.int k), some (.ref lt), y2, y3, y4, y5, none, none]) (lo := 1) (hi := 32) (fun _ => true) (fun j => V.int ((1 + (j : Int)) * (1 + (j : Int)))) (fun H3 e3 Q3 kk => ?_) (by decide) (by decide) (fun x => rfl) (fun j H3 e3 hj => ?_) (fun j H3 e3 hj _ => ?_) Hd (Ex.refl Hd) _ (fun p3 H6 hp3 e6 h6 => ?_)
      · walk_at "gm"
        exact kk H3 (Ex.refl H3)
      · exact fun H4 _ QB kk => kk H4 (Ex.refl H4)
      · intro H4 e4 Q4 kk
        walk_at "gm"
        refine c_I (.inl ⟨by omega, by omega⟩) ?_
        exact kk H4 (Ex.refl H4)
      rw [given_trueI (32 - 1 : Int).toNat fun j => (1 + (j : Int)) * (1 + (j : Int))] at h6
      have h6 : H6 p3 = some (.lst (sqs.map V.int)) := h6
      have eH6 := eHd.trans e6
      clear eHd e6 hp3
      walk_at "gm"
      refine ⟨p3, sqs, 1000, rfl, .inl (.inl h6), by decide, by decide +kernel, by decide +kernel, fun F1 hF1 p1 H7 np1 e7 hp1 => ?_⟩
      have eF := brings_uniq (F := upto 1000) ⟨upto_rise 1000, fun x hx => mem_upto.mp hx, opens_sq⟩ hF1
      subst eF
      walk_at "gm"
      refine c_lstRg (c_rg2 ?_)
      walk_at "gm"
      refine ⟨1, 1001, rfl, rfl, ⟨by omega, by omega, by omega, by omega, by decide⟩, fun b5 nb5 => ?_⟩
      rw [show rgV 1 1001 = (upto 1000).map V.int from rgV_upto 1000]
      refine c_neL (xs := upto 1000) (ys := upto 1000) (.inl (.inl (Ex.new nb5 _ _ hp1))) (.inl (.inl upd_same)) ?_
      rw [decide_eq_true (rfl : upto 1000 = upto 1000)]
      have eH8 := eH6.trans (e7.trans (Ex.new (o := .lst ((upto 1000).map V.int)) nb5))
      generalize upd H7 b5 (.lst ((upto 1000).map V.int)) = H8 at eH8 ⊢
      clear eH6 e7 nb5 hp1 np1 hF1 h6
      walk_at "gm"
      refine ⟨by show 2 ≤ sizeLine; decide, fun l1 nl1 => ?_⟩
      walk_at "gm"
      refine c_I ⟨by decide, by decide, by decide⟩ ?_
      rw [show (10 : Int) ^ (18 : Int).toNat = ((1000000000000000000 : Nat) : Int) from by decide +kernel]
      walk_at "gm"
      refine ⟨l1, [2, 3], 1000000000000000000, rfl, .inl (.inl upd_same), good_of (by decide) (by decide), fun ks hk => ?_⟩
      have ek := (kept_by (ts := [2, 3]) (ks := [2, 3]) (by decide +kernel)).uniq hk
      subst ek
      refine ⟨by decide, ⟨2, by decide, by decide⟩, fun H9 e9 => ?_⟩
      rw [cnt_23]
      have eH9 := eH8.trans ((Ex.new nl1).trans e9)
      clear eH8 nl1 e9 hk
      walk_at "gm"
      refine c_I ⟨by decide, by decide, by decide⟩ ?_
      rw [show (10 : Int) ^ (30 : Int).toNat = 1000000000000000 * 1000000000000000 from by decide +kernel]
      walk_at "gm"
      refine ⟨_, rfl, by decide, num_le (m := 200) (by decide +kernel) (by decide), fun r hr1 Ha ea => ?_⟩
      have er := (IsRoot.sq (r := 1000000000000000) (by decide)).uniq hr1
      subst er
      walk_at "gm"
      refine c_I ⟨by decide, by decide, by decide⟩ ?_
      rw [show (10 : Int) ^ (30 : Int).toNat = 1000000000000000 * 1000000000000000 from by decide +kernel]
      walk_at "gm"
      refine ⟨_, rfl, by decide, num_le (m := 200) (by decide +kernel) (by decide), fun r hr2 Hb eb => ?_⟩
      have er := (IsRoot.sq_less (r := 1000000000000000) (by decide)).uniq hr2
      subst er
      walk_at "gm"
      refine ⟨_, rfl, by decide, num_le (m := 200) (by decide +kernel) (by decide), fun r hr3 Hc ec => ?_⟩
      have er := (show IsRoot 0 0 from ⟨by decide, by decide, by decide⟩).uniq hr3
      subst er
      walk_at "gm"
      refine ⟨_, rfl, by decide, num_le (m := 200) (by decide +kernel) (by decide), fun r hr4 He ee => ?_⟩
      have er := (show IsRoot 3 1 from ⟨by decide, by decide, by decide⟩).uniq hr4
      subst er
      walk_at "gm"
      refine ⟨by show 4 ≤ sizeLine; decide, fun l2 nl2 => ?_⟩
      walk_at "gm"
      refine c_I ⟨by decide, by decide, by decide⟩ ?_
      rw [show (10 : Int) ^ (15 : Int).toNat = 1000000000000000 from by decide +kernel]
      walk_at "gm"
      refine c_I ⟨by decide, by decide, by decide⟩ ?_
      rw [show (10 : Int) ^ (15 : Int).toNat = 1000000000000000 from by decide +kernel]
      walk_at "gm"
      refine ⟨by show 4 ≤ sizeLine; decide, fun l3 nl3 => ?_⟩
      refine c_neL (xs := [1000000000000000, 1000000000000000 - 1, 0, 1]) (ys := [1000000000000000, 1000000000000000 - 1, 0, 1]) (.inl (.inl (Ex.new nl3 _ _ upd_same))) (.inl (.inl upd_same)) ?_
      rw [decide_eq_true (rfl : [(1000000000000000 : Int), 1000000000000000 - 1, 0, 1] = [1000000000000000, 1000000000000000 - 1, 0, 1])]
      have eH10 := eH9.trans (ea.trans (eb.trans (ec.trans (ee.trans ((Ex.new (o := .lst [.int 1000000000000000, .int (1000000000000000 - 1), .int 0, .int 1]) nl2).trans (Ex.new (o := .lst [.int 1000000000000000, .int (1000000000000000 - 1), .int 0, .int 1]) nl3))))))
      generalize upd (upd He l2 (.lst [.int 1000000000000000, .int (1000000000000000 - 1), .int 0, .int 1])) l3 (.lst [.int 1000000000000000, .int (1000000000000000 - 1), .int 0, .int 1]) = H10 at eH10 ⊢
      clear eH9 ea eb ec ee nl2 nl3 hr1 hr2 hr3 hr4
      walk_at "gm"
      refine c_lstRg (c_rg2 ?_)
      walk_at "gm"
      refine ⟨1, 41, rfl, rfl, ⟨by omega, by omega, by omega, by omega, by decide⟩, fun l4 nl4 => ?_⟩
      rw [show rgV 1 41 = (upto 40).map V.int from rgV_upto 40]
      walk_at "gm"
      refine ⟨l4, upto 40, rfl, .inl (.inl upd_same), good_of (by decide) (fun t ht => (mem_upto.mp ht).1), fun ks hk => ?_⟩
      have ek := (kept_by (ts := upto 40) (ks := upto 40) (by decide +kernel)).uniq hk
      subst ek
      refine ⟨rndOk_of (B := 6) (fun t ht => by have := mem_upto.mp ht; omega) (by rw [upto_len]; decide), fun H11 e11 => ?_⟩
      rw [rnd_40]
      have eH11 := eH10.trans ((Ex.new nl4).trans e11)
      clear eH10 nl4 e11 hk
      walk_at "gm"
      refine ⟨Nat.zero_le _, fun l5 nl5 => ?_⟩
      walk_at "gm"
      refine ⟨l5, [], rfl, .inl (.inl upd_same), good_of (by decide) (by simp), fun ks hk => ?_⟩
      have ek := (kept_by (ts := []) (ks := []) (by decide +kernel)).uniq hk
      subst ek
      refine ⟨fun i k hi => by simp at hi, fun H12 e12 => ?_⟩
      rw [show rnd [] = 1 from rfl]
      walk_at "gm"
      refine ⟨by show 2 ≤ sizeLine; decide, fun l6 nl6 => ?_⟩
      walk_at "gm"
      refine ⟨l6, [4, 4], rfl, .inl (.inl upd_same), good_of (by decide) (by decide), fun ks hk2 => ?_⟩
      have ek := (kept_by (ts := [4, 4]) (ks := []) (by decide +kernel)).uniq hk2
      subst ek
      refine ⟨fun i k hi => by simp at hi, fun H13 e13 => ?_⟩
      rw [show rnd [] = 1 from rfl]
      walk_at "gm"
      refine ⟨by show 2 ≤ sizeLine; decide, fun l7 nl7 => ?_⟩
      walk_at "gm"
      refine ⟨l7, [4, 6], rfl, .inl (.inl upd_same), good_of (by decide) (by decide), fun ks hk3 => ?_⟩
      have ek := (kept_by (ts := [4, 6]) (ks := [4, 6]) (by decide +kernel)).uniq hk3
      subst ek
      refine ⟨rndOk_of (B := 6) (by decide) (by decide), fun H14 e14 => ?_⟩
      rw [show rnd [4, 6] = 12 from by decide +kernel]
      walk_at "gm"
      refine ⟨by show 3 ≤ sizeLine; decide, fun l8 nl8 => ?_⟩
      walk_at "gm"
      refine ⟨by show 3 ≤ sizeLine; decide, fun l9 nl9 => ?_⟩
      refine c_neL (xs := [1, 1, 12]) (ys := [1, 1, 12]) (.inl (.inl (Ex.new nl9 _ _ upd_same))) (.inl (.inl upd_same)) ?_
      rw [decide_eq_true (rfl : [(1 : Int), 1, 12] = [1, 1, 12])]
      have eH15 := eH11.trans ((Ex.new nl5).trans (e12.trans ((Ex.new nl6).trans (e13.trans ((Ex.new nl7).trans (e14.trans ((Ex.new (o := .lst [.int 1, .int 1, .int 12]) nl8).trans (Ex.new (o := .lst [.int 1, .int 1, .int 12]) nl9))))))))
      generalize upd (upd H14 l8 (.lst [.int 1, .int 1, .int 12])) l9 (.lst [.int 1, .int 1, .int 12]) = H15 at eH15 ⊢
      clear eH11 nl5 nl6 nl7 nl8 nl9 e12 e13 e14 hk hk2 hk3
      walk_at "gm"
      refine c_lstRg (c_rg2 ?_)
      walk_at "gm"
      refine ⟨1, 13, rfl, rfl, ⟨by omega, by omega, by omega, by omega, by decide⟩, fun m1 nm1 => ?_⟩
      rw [show rgV 1 13 = (upto 12).map V.int from rgV_upto 12]
      walk_at "gm"
      refine ⟨by show 1 ≤ sizeLine; decide, fun m2 nm2 => ?_⟩
      walk_at "gm"
      refine ⟨m2, 28, [.int (13 + k)], rfl, rfl, upd_same, by decide, by decide, by show 1 * 28 ≤ sizeLine; decide, fun m3 nm3 => ?_⟩
      refine c_cat (((Ex.new nm2).trans (Ex.new nm3)) _ _ upd_same) upd_same (by show 12 + 28 ≤ 100000; decide) fun m4 nm4 => ?_
      have h12 : ∀ Hq : Hp, (upd Hq m4 (.lst ((upto 12).map V.int ++ (List.replicate (28 : Int).toNat [V.int (13 + (k : Int))]).flatten))) m4 = some (.lst ((upto 12 ++ List.replicate 28 (13 + (k : Int))).map V.int)) := fun Hq => by
        rw [upd_same, List.map_append]
        rfl
      have h12 := h12 (upd (upd (upd H15 m1 (.lst ((upto 12).map V.int))) m2 (.lst [.int (13 + k)])) m3 (.lst (List.replicate (28 : Int).toNat [V.int (13 + (k : Int))]).flatten))
      have eH16 := eH15.trans ((Ex.new (o := .lst ((upto 12).map V.int)) nm1).trans ((Ex.new (o := .lst [.int (13 + k)]) nm2).trans ((Ex.new (o := .lst (List.replicate (28 : Int).toNat [V.int (13 + (k : Int))]).flatten) nm3).trans (Ex.new (o := .lst ((upto 12).map V.int ++ (List.replicate (28 : Int).toNat [V.int (13 + (k : Int))]).flatten)) nm4))))
      generalize upd (upd (upd (upd H15 m1 (.lst ((upto 12).map V.int))) m2 (.lst [.int (13 + k)])) m3 (.lst (List.replicate (28 : Int).toNat [V.int (13 + (k : Int))]).flatten)) m4 (.lst ((upto 12).map V.int ++ (List.replicate (28 : Int).toNat [V.int (13 + (k : Int))]).flatten)) = H16 at h12 eH16 ⊢
      clear nm1 nm2 nm3 nm4 eH15
      have kp12 := kept_twelve (z := 13 + (k : Int)) (by omega)
      have g12 : Good (upto 12 ++ List.replicate 28 (13 + (k : Int))) := good_of (by rw [List.length_append, upto_len, List.length_replicate]; decide) (fun t ht => by
        rcases List.mem_append.mp ht with ht | ht
        · exact (mem_upto.mp ht).1
        · have := List.eq_of_mem_replicate ht
          omega)
      have len12 : ((upto 12 ++ List.replicate 28 (13 + (k : Int))).map V.int).length = 40 := by rw [List.length_map, List.length_append, upto_len, List.length_replicate]
      generalize upto 12 ++ List.replicate 28 (13 + (k : Int)) = ts12 at h12 kp12 g12 len12
      have how : ∀ {Hx : Hp} {n : Nat} {Q' : VK}, Hx m4 = some (.lst (ts12.map V.int)) → (∀ H2, Ex Hx H2 → Q' (.int (cnt ts12 n : Nat)) H2) → spHow K [.ref m4, .int n] Hx Q' E0 := by
        intro Hx n Q' hl q'
        refine ⟨m4, ts12, n, rfl, .inl (.inl hl), g12, fun ks hk => ?_⟩
        have ek := kp12.uniq hk
        subst ek
        exact ⟨by decide, ⟨4, fun t ht => by have := mem_upto.mp ht; omega, by decide⟩, q'⟩
      walk_at "gm"
      refine c_len (.inl (.inl h12)) ?_
      rw [len12]
      walk_at "gm"
      refine ⟨m4, ts12, rfl, .inl (.inl h12), g12, fun ks hk p4 H17 np4 e17 hp4 => ?_⟩
      have ek := kp12.uniq hk
      subst ek
      walk_at "gm"
      refine c_lstRg (c_rg2 ?_)
      walk_at "gm"
      refine ⟨1, 13, rfl, rfl, ⟨by omega, by omega, by omega, by omega, by decide⟩, fun m5 nm5 => ?_⟩
      rw [show rgV 1 13 = (upto 12).map V.int from rgV_upto 12]
      refine c_neL (xs := upto 12) (ys := upto 12) (.inl (.inl (Ex.new nm5 _ _ hp4))) (.inl (.inl upd_same)) ?_
      rw [decide_eq_true (rfl : upto 12 = upto 12)]
      have e1618 := e17.trans (Ex.new (o := .lst ((upto 12).map V.int)) nm5)
      generalize upd H17 m5 (.lst ((upto 12).map V.int)) = H18 at e1618 ⊢
      walk_at "gm"
      refine how (n := 100) (e1618 _ _ h12) fun H19 e19 => ?_
      generalize ((cnt ts12 100 : Nat) : Int) = c100
      walk_at "gm"
      refine ⟨m4, ts12, rfl, .inl (.inl ((e1618.trans e19) _ _ h12)), g12, fun ks hk p5 H20 np5 e20 hp5 => ?_⟩
      have ek := kp12.uniq hk
      subst ek
      walk_at "gm"
      refine ⟨by show 2 ≤ sizeLine; decide, fun m6 nm6 => ?_⟩
      walk_at "gm"
      refine ⟨_, rfl, .inr ⟨m6, _, rfl, .inl (.inl upd_same), by simp, fun x hx => ?_⟩, fun H21 e21 => ?_⟩
      · simp only [List.mem_cons, List.not_mem_nil, or_false] at hx
        rcases hx with rfl | rfl
        · exact .inl ⟨_, rfl⟩
        · exact Pln.ints (ns := upto 12) (.inl (.inl (Ex.new nm6 _ _ hp5))) (by decide)
      have e1621 := e1618.trans (e19.trans (e20.trans ((Ex.new nm6).trans e21)))
      have h12 := e1621 _ _ h12
      have eH21 := eH16.trans e1621
      have hT21 := hT.ext eH21
      clear e1618 e1621 e19 e20 e21 nm6 np5 hp5 nm5 e17 np4 hp4 hT eH16
      walk_at "gm"
      refine c_lam hT21 (fun f0 c0 H22 x22 _ hT22 _ hf0 hc0 => ?_)
      walk_at "gm"
      refine ⟨f0, .int 5, 5, by decide, rfl, (asks_lam (x := "_law_count") hf0 hc0 ⟨rfl, rfl, rfl, by decide, rfl, by dsimp only; decide +kernel, by dsimp only; decide +kernel, by dsimp only; decide +kernel, by dsimp only; decide +kernel⟩ (fun _ _ us hl => match us, hl with | [_], _ => rfl) (fun f A outer s Q E hr q => ⟨_, (pe_dx x_how_many hr (by decide) (L2N.takes_of rfl rfl rfl rfl) (by rfl) (pa_cons (pe_listRg rfl (by rfl) B.list_ (prg_2 (by rfl) B.range_ pe_int pe_int)) (pa_cons (pv 0) pa_nil))), ?_⟩)), fun H23 e23 => ?_⟩
      · walk_at "gx"
        refine c_lstRg (c_rg2 ?_)
        walk_at "gx"
        refine ⟨1, 14, rfl, rfl, ⟨by omega, by omega, by omega, by omega, by decide⟩, fun l n => ?_⟩
        rw [show rgV 1 14 = (upto 13).map V.int from rgV_upto 13]
        walk_at "gx"
        refine .inr ⟨l, upto 13, 5, rfl, .inl (.inl upd_same), good_of (by decide) (fun t ht => (mem_upto.mp ht).1), fun ks hk => ?_, fun H' e' => q H' ((Ex.new n).trans e')⟩
        rw [← (kept_by (ts := upto 13) (ks := upto 13) (by decide +kernel)).uniq hk, upto_len]
        decide
      walk_at "gm"
      refine how (n := 0) (e23 _ _ (lst_ext x22 h12)) fun H24 e24 => ?_
      rw [show cnt ts12 0 = 0 from rfl]
      walk_at "gm"
      exact q _ ((ext_of eH21).trans (x22.trans (ext_of (e23.trans e24)))) ((hT22.ext e23).ext e24)
end
abbrev s__law_far_right : Stmt := topS 45
section
open LamX
variable {P : Program} {w : World} {K : PySem.W.Frag} {mg : Str → Option Value} {base : Heap} {CA CS CU CD : Addr} {C : Nat → Addr}
def spFR (T : List (Addr × Str)) : Sp := fun vs H Q _ => ∃ g : Int, vs = [.int g] ∧ 6 ≤ g ∧ g.natAbs < 2 ^ far ∧ Tabs T H ∧ ∀ H', ExtN H H' → Tabs T H' → Q (.bl true) H'
theorem ok__law_far_right {T : List (Addr × Str)} {Pt c : Addr} (F : DfC K mg "_law_far_right" s__law_far_right ["_law_far"] c)
    (TB : TabB base mg c Pt) (mT : (Pt, lamQ "_law_far_right") ∈ T) (uT : ∀ p ∈ T, p.1 = Pt → p.2 = lamQ "_law_far_right") (O : Own K mg CA CS CU) (B : Blt mg)
    (c_by_stretch : Cal P w K mg base CX0 3 "by_stretch" spStretch) (c_is_open : Cal P w K mg base CX0 3 "is_open" (spIsOpen K)) (c__law_truths : Cal P w K mg base CX0 1 "_law_truths" (spTruths K)) (c_compared : Cal P w K mg base CX0 3 "compared" (spComp K CS CU))
    (met_Same_shows : MetC P w K mg base 2 CS "shows" (spShows K CS CU false)) (met_Unlike_shows : MetC P w K mg base 2 CU "shows" (spShows K CS CU true)) (mk_Unlike : MakC P w K mg base 1 "Unlike" CU (spInit CU))
    (c__law_plain : Cal P w K mg base CX0 3 "_law_plain" (spPl K 3)) (c_how_many : Cal P w K mg base CX0 3 "how_many" (spHow K)) (c_round_of : Cal P w K mg base CX0 3 "round_of" (spRound K)) (c_open_doors : Cal P w K mg base CX0 3 "open_doors" (spOpens K))
    (c__law_refused : Cal P w K mg base CX0 6 "_law_refused" (spRefused P w K mg base C)) (x_by_stretch : CalX P w K mg base 3 "by_stretch" (spXStr K (C 4) (C 1) (C 2))) : Cal P w K mg base CX0 7 "_law_far_right" (spFR T) := by
  have m0_Same := O.m0
  have gC_Same := O.gS
  have gC_Unlike := O.gU
  have gC_Answer := O.gA
  have sc : FnScope ["_law_far", "_law_shown", "_law_row", "_law_answer", "_law_other", "_law_told"] ["_law_far"] (defScope s__law_far_right) := ⟨rfl, rfl, rfl, by decide +kernel, rfl, by decide +kernel, by decide +kernel⟩
  refine F.ok sc (fun vs H Q E h => ?_) (fun f A outer s H vs Q E hr h => ?_)
  · obtain ⟨g, rfl, _⟩ := h
    rfl
  · obtain ⟨g, rfl, g6, gb, hT, q⟩ := h
    refine ⟨_, (pss_cons (ps_set (i := 1) sc.nd rfl (by first | exact Or.inl rfl | exact Or.inr rfl) (pe_lst (pa_cons (pe_d c_by_stretch hr (by decide) (by rfl) (pa_cons pe_int (pa_cons (pe_op op_pow pe_int pe_int) (pa_cons pe_int pa_nil)))) (pa_cons (pe_d c_by_stretch hr (by decide) (by rfl) (pa_cons pe_int (pa_cons (pe_op op_pow pe_int pe_int) (pa_cons pe_int pa_nil)))) (pa_cons (pe_d c_by_stretch hr (by decide) (by rfl) (pa_cons pe_int (pa_cons pe_int (pa_cons pe_int pa_nil)))) pa_nil)))))
      (pss_cons (ps_set (i := 1) sc.nd rfl (by first | exact Or.inl rfl | exact Or.inr rfl) (pe_op op_cat (pv 1) (pe_lst (pa_cons (pe_d c_by_stretch hr (by decide) (by rfl) (pa_cons pe_int (pa_cons pe_int (pa_cons pe_int pa_nil)))) pa_nil))))
      (pss_cons (ps_set (i := 1) sc.nd rfl (by first | exact Or.inl rfl | exact Or.inr rfl) (pe_op op_cat (pv 1) (pe_lst (pa_cons (pe_d c_by_stretch hr (by decide) (by rfl) (pa_cons pe_int (pa_cons (pv 0) (pa_cons (pe_op op_pow pe_int pe_int) pa_nil)))) (pa_cons (pe_d c_is_open hr (by decide) (by rfl) (pa_cons (pe_lst (pa_cons (pv 0) pa_nil)) (pa_cons (pv 0) pa_nil))) (pa_cons (pe_d c_is_open hr (by decide) (by rfl) (pa_cons (pe_lst (pa_cons (pv 0) (pa_cons (pv 0) pa_nil))) (pa_cons (pv 0) pa_nil))) (pa_cons (pe_d c_is_open hr (by decide) (by rfl) (pa_cons (pe_lst pa_nil) (pa_cons (pv 0) pa_nil))) pa_nil)))))))
      (pss_cons (ps_if (PW.pt (pw_or (pt_not (pt_val (pe_d c__law_truths hr (by decide) (by rfl) (pa_cons (pv 1) pa_nil)))) (pw_or (pt_cmpR (op_neD hr.units) (pe_slice sl_list (pv 1) po_none (po_some pe_int)) (pe_lst (pa_cons pe_bl (pa_cons pe_bl (pa_cons pe_bl (pa_cons pe_bl pa_nil))))) (nomark _)) (pw_or1 (pt_cmpR (op_neD hr.units) (pe_slice sl_list (pv 1) (po_some pe_int) po_none) (pe_lst (pa_cons pe_bl (pa_cons pe_bl (pa_cons pe_bl pa_nil)))) (nomark _))))))
      (pss_one (ps_ret pe_bl)) pss_nil)
      (pss_cons (ps_if (pt_not (pt_val (pe_d c__law_refused hr (by decide) (by rfl) (pa_cons (pe_lam (T := T) TB rfl mT uT rfl (by decide +kernel)) (pa_cons (pe_op op_add (pe_op op_pow pe_int pe_int) pe_int) (pa_cons pe_int pa_nil))))))
      (pss_one (ps_ret pe_bl)) pss_nil)
      (pss_cons (ps_if (pt_not (pt_val (pe_d c__law_refused hr (by decide) (by rfl) (pa_cons (pe_lam (T := T) TB rfl mT uT rfl (by decide +kernel)) (pa_cons pe_int (pa_cons pe_int pa_nil))))))
      (pss_one (ps_ret pe_bl)) pss_nil)
      (pss_cons (ps_set (i := 2) sc.nd rfl (by first | exact Or.inl rfl | exact Or.inr rfl) (pe_lst (pa_cons (pv 0) (pa_cons pe_int pa_nil))))
      (pss_cons (ps_set (i := 3) sc.nd rfl (by first | exact Or.inl rfl | exact Or.inr rfl) (pe_d c_compared hr (by decide) (by rfl) (pa_cons (pv 2) (pa_cons (pv 2) pa_nil))))
      (pss_cons (ps_if (PW.pt (pw_or (pt_not (pt_val (pe_callB call_isi (by rfl) B.isinstance_ boot_isinstance (pa_cons (pv 3) (pa_cons (pe_glob (v := .ref _) (by rfl) gC_Same rfl) pa_nil))))) (pw_or1 (pt_not (pt_val (pe_d c__law_truths hr (by decide) (by rfl) (pa_cons (pe_lst (pa_cons (pe_meth2 met_Same_shows met_Unlike_shows hr (by decide) (pv 3) (pa_cons (pv 2) (pa_cons (pv 2) pa_nil))) (pa_cons (pe_meth2 met_Same_shows met_Unlike_shows hr (by decide) (pe_mkc mk_Unlike hr (by decide) (by rfl) (pa_cons (pv 0) pa_nil)) (pa_cons (pv 2) (pa_cons (pv 2) pa_nil))) pa_nil))) pa_nil)))))))
      (pss_one (ps_ret pe_bl)) pss_nil)
      (pss_cons (ps_if (pt_val (pe_meth2 met_Same_shows met_Unlike_shows hr (by decide) (pe_mkc mk_Unlike hr (by decide) (by rfl) (pa_cons pe_int pa_nil)) (pa_cons (pv 2) (pa_cons (pv 2) pa_nil))))
      (pss_one (ps_ret pe_bl)) pss_nil)
      (pss_cons (ps_set (i := 4) sc.nd rfl (by first | exact Or.inl rfl | exact Or.inr rfl) (pe_callTy call_list_s (by rfl) B.list_ boot_list (pa_cons (pv 2) pa_nil)))
      (pss_cons (ps_asg pe_int (pg_sub (pv 2) pe_int set_list))
      (pss_cons (ps_set (i := 5) sc.nd rfl (by first | exact Or.inl rfl | exact Or.inr rfl) (pe_d c_compared hr (by decide) (by rfl) (pa_cons (pv 2) (pa_cons (pv 4) pa_nil))))
      (pss_cons (ps_if (PW.pt (pw_or (pt_not (pt_val (pe_callB call_isi (by rfl) B.isinstance_ boot_isinstance (pa_cons (pv 5) (pa_cons (pe_glob (v := .ref _) (by rfl) gC_Unlike rfl) pa_nil))))) (pw_or (pt_cmpR op_ne (pe_fld (pv 5) rfl) pe_int (nomark _)) (pw_or1 (pt_val (pe_meth2 met_Same_shows met_Unlike_shows hr (by decide) (pv 3) (pa_cons (pv 2) (pa_cons (pv 4) pa_nil))))))))
      (pss_one (ps_ret pe_bl)) pss_nil)
      (pss_one (ps_ret (pe_d c__law_plain hr (by decide) (by rfl) (pa_cons (pe_lst (pa_cons (pe_fld (pv 5) rfl) (pa_cons (pe_d c_how_many hr (by decide) (by rfl) (pa_cons (pe_lst (pa_cons pe_int pa_nil)) (pa_cons (pv 0) pa_nil))) (pa_cons (pe_d c_round_of hr (by decide) (by rfl) (pa_cons (pe_lst (pa_cons (pv 0) pa_nil)) pa_nil)) (pa_cons (pe_d c_open_doors hr (by decide) (by rfl) (pa_cons (pe_lst (pa_cons pe_int pa_nil)) (pa_cons pe_int pa_nil))) pa_nil))))) pa_nil)))))))))))))))))), ?_⟩
    walk_at "gm"
    refine c_I ⟨by decide, by decide, by decide⟩ ?_
    rw [show (10 : Int) ^ (30 : Int).toNat = 1000000000000000000000000000000 from by decide +kernel]
    walk_at "gm"
    refine ⟨1, 1000000000000000000000000000000, 999950884, rfl, by decide, by decide, by decide, by decide, ?_⟩
    rw [k_sq]
    walk_at "gm"
    refine c_I ⟨by decide, by decide, by decide⟩ ?_
    rw [show (10 : Int) ^ (30 : Int).toNat = 1000000000000000000000000000000 from by decide +kernel]
    walk_at "gm"
    refine ⟨2, 1000000000000000000000000000000, 999950884, rfl, by decide, by decide, by decide, by decide, ?_⟩
    rw [k_sq2]
    walk_at "gm"
    refine ⟨7, 7, 7, rfl, by decide, by decide, by decide, by decide, ?_⟩
    rw [k_77]
    walk_at "gm"
    refine ⟨by show 3 ≤ sizeLine; decide, fun l1 n1 => ?_⟩
    walk_at "gm"
    refine ⟨7, 7, 8, rfl, by decide, by decide, by decide, by decide, ?_⟩
    rw [k_78]
    walk_at "gm"
    refine ⟨by show 1 ≤ sizeLine; decide, fun l2 n2 => ?_⟩
    refine c_cat (Ex.new n2 _ _ upd_same) upd_same (by show 3 + 1 ≤ 100000; decide) fun l3 n3 => ?_
    have e3 := (Ex.new (o := .lst [.bl true, .bl false, .bl true]) n1).trans ((Ex.new (o := .lst [.bl false]) n2).trans (Ex.new (o := .lst ([.bl true, .bl false, .bl true] ++ [.bl false])) n3))
    have h3 : (upd (upd (upd H l1 (.lst [.bl true, .bl false, .bl true])) l2 (.lst [.bl false])) l3 (.lst ([.bl true, .bl false, .bl true] ++ [.bl false]))) l3 = some (.lst [.bl true, .bl false, .bl true, .bl false]) := upd_same
    generalize upd (upd (upd H l1 (.lst [.bl true, .bl false, .bl true])) l2 (.lst [.bl false])) l3 (.lst ([.bl true, .bl false, .bl true] ++ [.bl false])) = H1 at e3 h3 ⊢
    clear n1 n2 n3
    walk_at "gm"
    refine c_I ⟨by decide, by decide, by decide⟩ ?_
    rw [show (10 : Int) ^ (9 : Int).toNat = 1000000000 from by decide +kernel]
    walk_at "gm"
    refine ⟨1, g, 1000000000, rfl, by decide, by omega, by decide, by decide, ?_⟩
    generalize decide (cA 1 g 1000000000 % 2 = 1) = b4
    walk_at "gm"
    refine ⟨by show 1 ≤ sizeLine; decide, fun l4 n4 => ?_⟩
    walk_at "gm"
    refine ⟨l4, [g], g, rfl, .inl (.inl upd_same), good_of (by simp) (fun t ht => by simp at ht; omega), by omega, fun H2 e2 => ?_⟩
    rw [show opn [g] g = true from by rw [opn_one, decide_eq_true Int.emod_self]]
    walk_at "gm"
    refine ⟨by show 2 ≤ sizeLine; decide, fun l5 n5 => ?_⟩
    walk_at "gm"
    refine ⟨l5, [g, g], g, rfl, .inl (.inl upd_same), good_of (by simp) (fun t ht => by simp at ht; omega), by omega, fun H3 e3' => ?_⟩
    rw [show opn [g, g] g = false from by rw [opn_two]; simp]
    walk_at "gm"
    refine ⟨Nat.zero_le _, fun l6 n6 => ?_⟩
    walk_at "gm"
    refine ⟨l6, [], g, rfl, .inl (.inl upd_same), good_of (by simp) (fun t ht => nomatch ht), by omega, fun H4 e4 => ?_⟩
    rw [opn_nil]
    walk_at "gm"
    refine ⟨by show 4 ≤ sizeLine; decide, fun l7 n7 => ?_⟩
    have e14 := (Ex.new n4).trans (e2.trans ((Ex.new n5).trans (e3'.trans ((Ex.new n6).trans e4))))
    refine c_cat (Ex.new n7 _ _ (e14 _ _ h3)) upd_same (by show 4 + 4 ≤ 100000; decide) fun l8 n8 => ?_
    have h8 : (upd (upd H4 l7 (.lst [.bl b4, .bl true, .bl false, .bl false])) l8 (.lst ([.bl true, .bl false, .bl true, .bl false] ++ [.bl b4, .bl true, .bl false, .bl false]))) l8 = some (.lst ([true, false, true, false, b4, true, false, false].map V.bl)) := upd_same
    have e5 := e3.trans (e14.trans ((Ex.new (o := .lst [.bl b4, .bl true, .bl false, .bl false]) n7).trans (Ex.new (o := .lst ([.bl true, .bl false, .bl true, .bl false] ++ [.bl b4, .bl true, .bl false, .bl false])) n8)))
    generalize upd (upd H4 l7 (.lst [.bl b4, .bl true, .bl false, .bl false])) l8 (.lst ([.bl true, .bl false, .bl true, .bl false] ++ [.bl b4, .bl true, .bl false, .bl false])) = H5 at h8 e5 ⊢
    clear n4 n5 n6 n7 n8 e14 e2 e3' e4 e3 h3
    walk_at "gm"
    refine ⟨l8, _, rfl, .inl (.inl h8), by simp, fun H6 e6 => ?_⟩
    have h8 := e6 _ _ h8
    walk_at "gm"
    refine ⟨l8, _, rfl, .inl (.inl h8), fun s1 ns1 => ?_⟩
    rw [show cutV ([true, false, true, false, b4, true, false, false].map V.bl) none (some 4) = [true, false, true, false].map V.bl from rfl]
    walk_at "gm"
    refine ⟨by show 4 ≤ sizeLine; decide, fun s2 ns2 => ?_⟩
    refine c_neBs (xs := [true, false, true, false]) (ys := [true, false, true, false]) (.inl (.inl (Ex.new ns2 _ _ upd_same))) (.inl (.inl upd_same)) ?_
    have e7 := (Ex.new (o := .lst ([true, false, true, false].map V.bl)) ns1).trans (Ex.new (o := .lst [.bl true, .bl false, .bl true, .bl false]) ns2)
    generalize upd (upd H6 s1 (.lst ([true, false, true, false].map V.bl))) s2 (.lst [.bl true, .bl false, .bl true, .bl false]) = H7 at e7 ⊢
    walk_at "gm"
    refine ⟨l8, _, rfl, .inl (.inl (e7 _ _ h8)), fun s3 ns3 => ?_⟩
    rw [show cutV ([true, false, true, false, b4, true, false, false].map V.bl) (some 5) none = [true, false, false].map V.bl from rfl]
    walk_at "gm"
    refine ⟨by show 3 ≤ sizeLine; decide, fun s4 ns4 => ?_⟩
    refine c_neBs (xs := [true, false, false]) (ys := [true, false, false]) (.inl (.inl (Ex.new ns4 _ _ upd_same))) (.inl (.inl upd_same)) ?_
    have e8 := (Ex.new (o := .lst ([true, false, false].map V.bl)) ns3).trans (Ex.new (o := .lst [.bl true, .bl false, .bl false]) ns4)
    generalize upd (upd H7 s3 (.lst ([true, false, false].map V.bl))) s4 (.lst [.bl true, .bl false, .bl false]) = H8 at e8 ⊢
    have eH8 := e5.trans (e6.trans (e7.trans e8))
    have hT8 := hT.ext eH8
    clear hT e5 e6 e7 e8 ns1 ns2 ns3 ns4 h8
    walk_at "gm"
    refine c_lam hT8 (fun f0 c0 H9 x9 _ hT9 _ hf0 hc0 => ?_)
    walk_at "gm"
    refine c_I ⟨by decide, by decide, by decide⟩ ?_
    rw [show (10 : Int) ^ (9 : Int).toNat = 1000000000 from by decide +kernel]
    walk_at "gm"
    refine ⟨f0, .int (1000000000 + 1), 2, by decide, rfl, (asks_lam (x := "_law_door") hf0 hc0 ⟨rfl, rfl, rfl, by decide, rfl, by dsimp only; decide +kernel, by dsimp only; decide +kernel, by dsimp only; decide +kernel, by dsimp only; decide +kernel⟩ (fun _ _ us hl => match us, hl with | [_], _ => rfl) (fun f A outer s Q E hr q => ⟨_, (pe_dx x_by_stretch hr (by decide) (L2N.takes_of rfl rfl rfl rfl) (by rfl) (pa_cons pe_int (pa_cons pe_int (pa_cons (pv 0) pa_nil)))), ?_⟩)), fun H10 e10 => ?_⟩
    · walk_at "gx"
      exact ⟨_, _, _, rfl, .inr ⟨1, 2, rfl, rfl, by decide, by decide, .inr ⟨_, rfl, by decide, q⟩⟩⟩
    have hT10 := hT9.ext e10
    walk_at "gm"
    refine c_lam hT10 (fun f1 c1 H11 x11 _ hT11 _ hf1 hc1 => ?_)
    walk_at "gm"
    refine ⟨f1, .int 0, 4, by decide, rfl, (asks_lam (x := "_law_door") hf1 hc1 ⟨rfl, rfl, rfl, by decide, rfl, by dsimp only; decide +kernel, by dsimp only; decide +kernel, by dsimp only; decide +kernel, by dsimp only; decide +kernel⟩ (fun _ _ us hl => match us, hl with | [_], _ => rfl) (fun f A outer s Q E hr q => ⟨_, (pe_dx x_by_stretch hr (by decide) (L2N.takes_of rfl rfl rfl rfl) (by rfl) (pa_cons pe_int (pa_cons pe_int (pa_cons (pv 0) pa_nil)))), ?_⟩)), fun H12 e12 => ?_⟩
    · walk_at "gx"
      exact ⟨_, _, _, rfl, .inl ⟨.inr ⟨2, rfl, by decide, .inr ⟨1, rfl, by decide, by decide⟩⟩, q⟩⟩
    have hT12 := hT11.ext e12
    have x12 : ExtN H H12 := (ext_of eH8).trans (x9.trans ((ext_of e10).trans (x11.trans (ext_of e12))))
    clear eH8 x9 e10 x11 e12 hT8 hT9 hT10 hT11 hf0 hc0 hf1 hc1
    walk_at "gm"
    refine ⟨by show 2 ≤ sizeLine; decide, fun lr nlr => ?_⟩
    have er := Ex.new (o := .lst [.int g, .int 3]) nlr
    have hlr : (upd H12 lr (.lst [.int g, .int 3])) lr = some (.lst [.int g, .int 3]) := upd_same
    generalize upd H12 lr (.lst [.int g, .int 3]) = H13 at er hlr ⊢
    have gd : Good [g, 3] := good_of (by simp) (fun t ht => by simp at ht; omega)
    walk_at "gm"
    refine ⟨lr, lr, [g, 3], [g, 3], rfl, hlr, hlr, gd, gd, fun ks hk an dx H14 nan e14 han => ?_⟩
    have ek := (kept_dup [g, 3]).uniq hk
    subst ek
    have hlr14 := e14 _ _ hlr
    walk_at "gm"
    refine O.isS han ?_
    walk_at "gm"
    refine shows_at han fun un hun => ?_
    walk_at "gm"
    refine ⟨an, dx, lr, lr, _, [g, 3], [g, 3], rfl, hun, han, hlr14, hlr14, by simp, by simp, fun ks hk => ?_⟩
    have ek := (kept_dup [g, 3]).uniq hk
    subst ek
    refine fun H15 e15 => ?_
    rw [show said ([] : List Int).head? [] = true from rfl]
    walk_at "gm"
    refine c_unlike (CS := CS) (fun u1 dx1 H16 nu1 e16 hu1 => ?_)
    walk_at "gm"
    refine shows_at hu1 fun un hun => ?_
    have hlr16 := (e15.trans e16) _ _ hlr14
    walk_at "gm"
    refine ⟨u1, dx1, lr, lr, _, [g, 3], [g, 3], rfl, hun, hu1, hlr16, hlr16, by simp, by simp, fun ks hk => ?_⟩
    have ek := (kept_dup [g, 3]).uniq hk
    subst ek
    refine fun H17 e17 => ?_
    rw [show said (some g) [] = false from by simp [said]]
    walk_at "gm"
    refine ⟨by show 2 ≤ sizeLine; decide, fun lt nlt => ?_⟩
    walk_at "gm"
    refine ⟨lt, [true, false], rfl, .inl (.inl upd_same), by simp, fun H18 e18 => ?_⟩
    have e1418 := e15.trans (e16.trans (e17.trans ((Ex.new nlt).trans e18)))
    walk_at "gm"
    refine c_unlike (CS := CS) (fun u2 dx2 H19 nu2 e19 hu2 => ?_)
    walk_at "gm"
    refine shows_at hu2 fun un hun => ?_
    have hlr19 := (e1418.trans e19) _ _ hlr14
    walk_at "gm"
    refine ⟨u2, dx2, lr, lr, _, [g, 3], [g, 3], rfl, hun, hu2, hlr19, hlr19, by simp, by simp, fun ks hk => ?_⟩
    have ek := (kept_dup [g, 3]).uniq hk
    subst ek
    refine fun H20 e20 => ?_
    rw [show said (some 3) [] = false from rfl]
    have e1420 := e1418.trans (e19.trans e20)
    have han20 := e1420 _ _ han
    have hlr20 := e20 _ _ hlr19
    have e20 : Ex H12 H20 := er.trans (e14.trans e1420)
    clear e1418 e19 e1420 hlr19 hu2 nu2 e18 nlt e17 hu1 hlr16 nu1 e16 e15 hlr14 han e14 nan hlr er
    walk_at "gm"
    refine c_list (.inl (.inl hlr20)) fun lo nlo => ?_
    have elo := Ex.new (o := .lst [.int g, .int 3]) nlo
    have hlo : (upd H20 lo (.lst [.int g, .int 3])) lo = some (.lst ([g, 3].map V.int)) := upd_same
    have hne : lo ≠ lr := Ne.symm (ne_of_none hlr20 nlo)
    generalize upd H20 lo (.lst [.int g, .int 3]) = H21 at elo hlo ⊢
    walk_at "gm"
    refine ⟨_, rfl, lr, _, 1, 1, rfl, rfl, elo _ _ hlr20, rfl, ?_⟩
    have hlr22 : (upd H21 lr (.lst ([V.int g, V.int 3].set 1 (.int 5)))) lr = some (.lst ([g, 5].map V.int)) := upd_same
    have hlo22 : (upd H21 lr (.lst ([V.int g, V.int 3].set 1 (.int 5)))) lo = some (.lst ([g, 3].map V.int)) := by rw [upd_ne hne]; exact hlo
    have han22 : (upd H21 lr (.lst ([V.int g, V.int 3].set 1 (.int 5)))) an = some (insO CS CU dx ([] : List Int).head?) := by
      rw [upd_ne (fun z => by rw [z, hlr20] at han20; cases han20)]
      exact elo _ _ han20
    have e22 : Ex H12 (upd H21 lr (.lst ([V.int g, V.int 3].set 1 (.int 5)))) := (e20.trans elo).mut nlr
    generalize upd H21 lr (.lst ([V.int g, V.int 3].set 1 (.int 5))) = H22 at hlr22 hlo22 han22 e22 ⊢
    clear hlo hne elo nlo hlr20 han20 e20 nlr
    have gd5 : Good [g, 5] := good_of (by simp) (fun t ht => by simp at ht; omega)
    walk_at "gm"
    refine ⟨lr, lo, [g, 5], [g, 3], rfl, hlr22, hlo22, gd5, gd, fun ks hk tn dy H23 ntn e23 htn => ?_⟩
    have ek := (kept_far g6).uniq hk
    subst ek
    walk_at "gm"
    refine O.isU htn ?_
    walk_at "gm"
    refine ⟨tn, CU, dy, _, .int 3, rfl, htn, O.clU, O.noD, rfl, ?_⟩
    walk_at "gm"
    refine shows_at (e23 _ _ han22) fun un hun => ?_
    walk_at "gm"
    refine ⟨an, dx, lr, lo, _, [g, 5], [g, 3], rfl, hun, e23 _ _ han22, e23 _ _ hlr22, e23 _ _ hlo22, by simp, by simp, fun ks hk => ?_⟩
    have ek := (kept_far g6).uniq hk
    subst ek
    refine fun H24 e24 => ?_
    rw [show said ([] : List Int).head? [3, 5] = false from rfl]
    have htn24 := e24 _ _ htn
    have eH24 := e22.trans (e23.trans e24)
    clear e22 e23 e24 htn ntn hlr22 hlo22 han22
    walk_at "gm"
    refine ⟨tn, CU, dy, _, .int 3, rfl, htn24, O.clU, O.noD, rfl, ?_⟩
    walk_at "gm"
    refine ⟨by show 1 ≤ sizeLine; decide, fun m1 nm1 => ?_⟩
    walk_at "gm"
    obtain ⟨n, rfl⟩ := Int.eq_ofNat_of_zero_le (show 0 ≤ g by omega)
    refine ⟨m1, [1], n, rfl, .inl (.inl upd_same), good_of (by simp) (by simp), fun ks hk => ?_⟩
    have ek := (kept_one 1).uniq hk
    subst ek
    refine ⟨by simp, ⟨1, by simp, by decide⟩, fun H25 e25 => ?_⟩
    rw [cnt_one]
    walk_at "gm"
    refine ⟨by show 1 ≤ sizeLine; decide, fun m2 nm2 => ?_⟩
    walk_at "gm"
    refine ⟨m2, [(n : Int)], rfl, .inl (.inl upd_same), good_of (by simp) (fun t ht => by simp at ht; omega), fun ks hk => ?_⟩
    have ek := (kept_one (n : Int)).uniq hk
    subst ek
    refine ⟨fun i k hi => ?_, fun H26 e26 => ?_⟩
    · have i0 : i = 0 := by
        have := (List.getElem?_eq_some_iff.mp hi).1
        simp at this
        omega
      subst i0
      have ek : (n : Int) = k := by simpa using hi
      subst ek
      exact ⟨by
        show (rnd []).natAbs < 2 ^ wid
        exact num_le (m := 1) (by decide) (by decide), gb⟩
    rw [rnd_one (by omega)]
    walk_at "gm"
    refine ⟨by show 1 ≤ sizeLine; decide, fun m3 nm3 => ?_⟩
    walk_at "gm"
    refine ⟨m3, [1], 1, rfl, .inl (.inl upd_same), good_of (by simp) (by simp), by decide, fun p1 H27 np1 e27 hp1 => ?_⟩
    walk_at "gm"
    refine ⟨by show 4 ≤ sizeLine; decide, fun m4 nm4 => ?_⟩
    walk_at "gm"
    refine ⟨_, rfl, .inr ⟨m4, _, rfl, .inl (.inl upd_same), by simp, fun x hx => ?_⟩, fun H28 e28 => ?_⟩
    · simp only [List.mem_cons, List.not_mem_nil, or_false] at hx
      rcases hx with rfl | rfl | rfl | rfl
      · exact .inl ⟨_, rfl⟩
      · exact .inl ⟨_, rfl⟩
      · exact .inl ⟨_, rfl⟩
      · exact Pln.ints (.inl (.inl (Ex.new nm4 _ _ hp1))) (by decide +kernel)
    have eZ := eH24.trans ((Ex.new nm1).trans (e25.trans ((Ex.new nm2).trans (e26.trans ((Ex.new nm3).trans (e27.trans ((Ex.new nm4).trans e28)))))))
    exact q _ (x12.trans (ext_of eZ)) (hT12.ext eZ)
end
abbrev s__law_bad_right : Stmt := topS 46
section
open LamX
variable {P : Program} {w : World} {K : PySem.W.Frag} {mg : Str → Option Value} {base : Heap} {CD : Addr} {C : Nat → Addr}
theorem notD_x {H : Hp} {l : Addr} {v : V} {n : Int} (h : H l = some (.lst [v])) (b : Pl K H v) (o : okD n v = false) : NotDs K n H (.ref l) :=
  .inr ⟨l, _, rfl, .inl (.inl h), by simp, .inl ⟨(fun x hx => by
    have : x = v := by simpa using hx
    subst this
    exact b), v, by simp, o⟩⟩
theorem notD_fall {H : Hp} {l : Addr} {n : Int} {D : List Int} (h : H l = some (.lst (D.map V.int))) (hl : D.length ≤ 1000) (hD : ∀ x ∈ D, 1 ≤ x ∧ x ≤ n) (i : Nat) (hi : i + 1 < D.length) (hle : D.getD (i + 1) 0 ≤ D.getD i 0) : NotDs K n H (.ref l) :=
  .inr ⟨l, _, rfl, .inl (.inl h), by rw [List.length_map]; exact hl, .inr ⟨D, rfl, hD, i, hi, hle⟩⟩
theorem rep_len {v : V} {n : Nat} : (List.replicate n [v]).flatten.length = n := by simp
theorem rep_mem {v x : V} {n : Nat} (h : x ∈ (List.replicate n [v]).flatten) : x = v := by
  obtain ⟨l, hl, hx⟩ := List.mem_flatten.mp h
  rw [List.eq_of_mem_replicate hl] at hx
  simpa using hx
/-- forty, one bad amid -/
theorem notT_amid {H : Hp} {l : Addr} {v : V} {i j : Nat} (h : H l = some (.lst ((List.replicate i [V.int 2]).flatten ++ [v] ++ (List.replicate j [V.int 3]).flatten))) (hl : i + j ≤ 39) (b : NotI K (fun n => n ≤ 0) H v) : NotT K H (.ref l) :=
  .inr ⟨l, _, rfl, .inl (.inl h), .inr ⟨by rw [List.length_append, List.length_append, rep_len, rep_len]; simp; omega, (fun x hx => by
    rcases List.mem_append.mp hx with hx | hx
    · rcases List.mem_append.mp hx with hx | hx
      · rw [rep_mem hx]; exact .inl ⟨2, rfl, trivial⟩
      · have : x = v := by simpa using hx
        subst this
        exact b.pl
    · rw [rep_mem hx]; exact .inl ⟨3, rfl, trivial⟩), v, by simp, isN_bad b⟩⟩
theorem badFive {H : Hp} : ∀ v ∈ [V.int 0, .int (-1), .bl true, .non, .str "1"], NotI K (fun n => n ≤ 0) H v := by
  intro v hv
  simp only [List.mem_cons, List.not_mem_nil, or_false] at hv
  rcases hv with rfl | rfl | rfl | rfl | rfl
  · exact .inl ⟨_, rfl, by decide⟩
  · exact .inl ⟨_, rfl, by decide⟩
  · exact .inr (.inl ⟨_, rfl⟩)
  · exact .inr (.inr (no_non k_ni))
  · exact .inr (.inr (no_str k_si))
theorem badSmall {H : Hp} : ∀ v ∈ [V.int (-1), .int 1001, .bl true, .non], NotI K noSmall H v := by
  intro v hv
  simp only [List.mem_cons, List.not_mem_nil, or_false] at hv
  rcases hv with rfl | rfl | rfl | rfl
  · exact .inl ⟨_, rfl, .inl (by decide)⟩
  · exact .inl ⟨_, rfl, .inr (by decide)⟩
  · exact .inr (.inl ⟨_, rfl⟩)
  · exact .inr (.inr (no_non k_ni))
theorem badDoor {H : Hp} : ∀ v ∈ [V.int 0, .int (-1), .bl true, .non], NotI K noDoor H v := by
  intro v hv
  simp only [List.mem_cons, List.not_mem_nil, or_false] at hv
  rcases hv with rfl | rfl | rfl | rfl
  · exact .inl ⟨_, rfl, by decide⟩
  · exact .inl ⟨_, rfl, by decide⟩
  · exact .inr (.inl ⟨_, rfl⟩)
  · exact .inr (.inr (no_non k_ni))
def spBR (T : List (Addr × Str)) : Sp := fun vs H Q _ => ∃ wh : Int, vs = [.int wh] ∧ Tabs T H ∧ ∀ H', Q (.bl true) H'
theorem ok__law_bad_right {T : List (Addr × Str)} {Pt c : Addr} (F : DfC K mg "_law_bad_right" s__law_bad_right ["_law_whole"] c)
    (TB : TabB base mg c Pt) (mT : (Pt, lamQ "_law_bad_right") ∈ T) (uT : ∀ p ∈ T, p.1 = Pt → p.2 = lamQ "_law_bad_right") (B : Blt mg)
    (c__law_refused : Cal P w K mg base CX0 6 "_law_refused" (spRefused P w K mg base C)) (c_open_doors : Cal P w K mg base CX0 3 "open_doors" (spOpens K))
    (x_kept : CalX P w K mg base 3 "kept" (spXT K (C 0))) (x_round_of : CalX P w K mg base 3 "round_of" (spXT K (C 0))) (x_is_open : CalX P w K mg base 3 "is_open" (spXTI K noDoor (C 0) (C 1))) (x_open_doors : CalX P w K mg base 3 "open_doors" (spXTI K noSmall (C 0) (C 2)))
    (x_compared : CalX P w K mg base 3 "compared" (spXComp K (C 0))) (x_turners_for : CalX P w K mg base 2 "turners_for" (spXBring K (C 2) (C 3))) : Cal P w K mg base CX0 7 "_law_bad_right" (spBR T) := by
  have sc : FnScope ["_law_whole", "_law_spot", "_law_bad", "_law_row", "_law_asks", "_law_ask"] ["_law_whole"] (defScope s__law_bad_right) := ⟨rfl, rfl, rfl, by decide +kernel, rfl, by decide +kernel, by decide +kernel⟩
  refine F.ok sc (fun vs H Q E h => ?_) (fun f A outer s H vs Q E hr h => ?_)
  · obtain ⟨m, rfl, _⟩ := h
    rfl
  · obtain ⟨wh, rfl, hT, q⟩ := h
    refine ⟨_, (pss_cons (ps_for PassesOwn.never rfl (pi_list (pe_lst (pa_cons (pe_op op_mod (pv 0) pe_int) (pa_cons pe_int (pa_cons pe_int pa_nil))))) (pg_name (i := 1) sc.nd rfl (by first | exact Or.inl rfl | exact Or.inr rfl))
      (pss_one (ps_for PassesOwn.never rfl (pi_list (pe_lst (pa_cons pe_int (pa_cons (pe_un un_neg pe_int) (pa_cons pe_bl (pa_cons pe_non (pa_cons pe_str pa_nil))))))) (pg_name (i := 2) sc.nd rfl (by first | exact Or.inl rfl | exact Or.inr rfl))
      (pss_cons (ps_set (i := 3) sc.nd rfl (by first | exact Or.inl rfl | exact Or.inr rfl) (pe_op op_cat (pe_op op_cat (pe_op op_rep (pe_lst (pa_cons pe_int pa_nil)) (pv 1)) (pe_lst (pa_cons (pv 2) pa_nil))) (pe_op op_rep (pe_lst (pa_cons pe_int pa_nil)) (pe_op op_sub pe_int (pv 1)))))
      (pss_cons (ps_set (i := 4) sc.nd rfl (by first | exact Or.inl rfl | exact Or.inr rfl) (pe_lst (pa_cons (pe_lam (T := T) TB rfl mT uT rfl (by decide +kernel)) (pa_cons (pe_lam (T := T) TB rfl mT uT rfl (by decide +kernel)) (pa_cons (pe_lam (T := T) TB rfl mT uT rfl (by decide +kernel)) pa_nil)))))
      (pss_cons (ps_set (i := 4) sc.nd rfl (by first | exact Or.inl rfl | exact Or.inr rfl) (pe_op op_cat (pv 4) (pe_lst (pa_cons (pe_lam (T := T) TB rfl mT uT rfl (by decide +kernel)) (pa_cons (pe_lam (T := T) TB rfl mT uT rfl (by decide +kernel)) pa_nil)))))
      (pss_one (ps_if (pt_not (pt_val (pe_callB (cr_all rfl) (by rfl) B.all_ boot_all (pa_cons (pe_lc (own := [("_law_ask", 5)]) (g := (gName 5)) (by rfl) sc.nd (pi_list (pv 4)) (blkOk_by (own := [("_law_ask", 5)]) (N := ["_law_whole", "_law_spot", "_law_bad", "_law_row", "_law_asks", "_law_ask"]) (sc := defScope s__law_bad_right) (by decide +kernel)) (fun _ _ _ _ _ => (pg_name (i := 5) sc.nd rfl (by first | exact Or.inl rfl | exact Or.inr rfl))) (fun _ _ _ _ _ => pts_nil) (fun _ _ _ _ _ => (pe_d c__law_refused hr (by decide) (by rfl) (pa_cons (pv 5) (pa_cons (pv 3) (pa_cons pe_int pa_nil)))))) pa_nil))))
      (pss_one (ps_ret pe_bl)) pss_nil))))))))
      (pss_cons (ps_if (pt_not (pt_val (pe_d c__law_refused hr (by decide) (by rfl) (pa_cons (pe_lam (T := T) TB rfl mT uT rfl (by decide +kernel)) (pa_cons (pe_op op_rep (pe_lst (pa_cons pe_int pa_nil)) pe_int) (pa_cons pe_int pa_nil))))))
      (pss_one (ps_ret pe_bl)) pss_nil)
      (pss_cons (ps_if (pt_not (pt_val (pe_d c__law_refused hr (by decide) (by rfl) (pa_cons (pe_lam (T := T) TB rfl mT uT rfl (by decide +kernel)) (pa_cons (pe_lst (pa_cons pe_int pa_nil)) (pa_cons pe_int pa_nil))))))
      (pss_one (ps_ret pe_bl)) pss_nil)
      (pss_cons (ps_for PassesOwn.never rfl (pi_list (pe_lst (pa_cons (pe_lst (pa_cons pe_int (pa_cons pe_int pa_nil))) (pa_cons (pe_lst (pa_cons pe_int (pa_cons pe_int pa_nil))) (pa_cons (pe_lst (pa_cons pe_int pa_nil)) (pa_cons (pe_lst (pa_cons pe_int pa_nil)) (pa_cons (pe_lst (pa_cons pe_bl pa_nil)) (pa_cons (pe_tup (pa_cons pe_int pa_nil)) (pa_cons pe_non pa_nil))))))))) (pg_name (i := 2) sc.nd rfl (by first | exact Or.inl rfl | exact Or.inr rfl))
      (pss_one (ps_if (pt_not (pt_val (pe_d c__law_refused hr (by decide) (by rfl) (pa_cons (pe_lam (T := T) TB rfl mT uT rfl (by decide +kernel)) (pa_cons (pv 2) (pa_cons pe_int pa_nil))))))
      (pss_one (ps_ret pe_bl)) pss_nil)))
      (pss_cons (ps_for PassesOwn.never rfl (pi_list (pe_lst (pa_cons (pe_un un_neg pe_int) (pa_cons pe_int (pa_cons pe_bl (pa_cons pe_non pa_nil)))))) (pg_name (i := 2) sc.nd rfl (by first | exact Or.inl rfl | exact Or.inr rfl))
      (pss_cons (ps_if (pt_not (pt_val (pe_d c__law_refused hr (by decide) (by rfl) (pa_cons (pe_lam (T := T) TB rfl mT uT rfl (by decide +kernel)) (pa_cons (pv 2) (pa_cons pe_int pa_nil))))))
      (pss_one (ps_ret pe_bl)) pss_nil)
      (pss_one (ps_if (pt_not (pt_val (pe_d c__law_refused hr (by decide) (by rfl) (pa_cons (pe_lam (T := T) TB rfl mT uT rfl (by decide +kernel)) (pa_cons (pv 2) (pa_cons pe_int pa_nil))))))
      (pss_one (ps_ret pe_bl)) pss_nil))))
      (pss_cons (ps_for PassesOwn.never rfl (pi_list (pe_lst (pa_cons pe_int (pa_cons (pe_un un_neg pe_int) (pa_cons pe_bl (pa_cons pe_non pa_nil)))))) (pg_name (i := 2) sc.nd rfl (by first | exact Or.inl rfl | exact Or.inr rfl))
      (pss_one (ps_if (pt_not (pt_val (pe_d c__law_refused hr (by decide) (by rfl) (pa_cons (pe_lam (T := T) TB rfl mT uT rfl (by decide +kernel)) (pa_cons (pv 2) (pa_cons pe_int pa_nil))))))
      (pss_one (ps_ret pe_bl)) pss_nil)))
      (pss_one (ps_ret (pe_cmpR op_eq (pe_callB call_len_s (by rfl) B.len_ boot_len (pa_cons (pe_d c_open_doors hr (by decide) (by rfl) (pa_cons (pe_lst (pa_cons pe_int pa_nil)) (pa_cons pe_int pa_nil))) pa_nil)) pe_int (nomark _)))))))))), ?_⟩
    walk_at "gm"
    refine c_I (by decide) ?_
    have s0 : 0 ≤ wh % 40 := Int.emod_nonneg _ (by decide)
    have s1 : wh % 40 < 40 := Int.emod_lt_of_pos _ (by decide)
    generalize wh % 40 = sp at s0 s1
    walk_at "gm"
    refine ⟨by show 3 ≤ sizeLine; decide, fun la nla => ?_⟩
    have hT1 := hT.ext (Ex.new (o := .lst [.int sp, .int 39, .int 0]) nla)
    have hla : (upd H la (.lst [.int sp, .int 39, .int 0])) la = some (.lst [.int sp, .int 39, .int 0]) := upd_same
    generalize upd H la (.lst [.int sp, .int 39, .int 0]) = H1 at hT1 hla ⊢
    clear hT nla
    refine ⟨la, rfl, ⟨_, .inl (.inl hla)⟩, f_list (K := K) (a := la) (xs := [.int sp, .int 39, .int 0]) (fun i σ H' => ∃ y1 y2 y3 y4, σ = [some (.int wh), y1, y2, y3, y4, none] ∧ ExtN H1 H' ∧ Tabs T H') ⟨_, _, _, _, rfl, ExtN.refl _, hT1⟩ (fun i σ H' _ h => by obtain ⟨_, _, _, _, _, x, _⟩ := h; exact sqL_ext x (.inl (.inl hla))) (fun i x σ H2 hx h => ?_) (fun σ H2 h => ?_)⟩
    · obtain ⟨y1, y2, y3, y4, rfl, x2, hT2⟩ := h
      obtain ⟨s, rfl, s0, s1⟩ : ∃ s : Int, x = .int s ∧ 0 ≤ s ∧ s ≤ 39 := by
        have hm := List.mem_of_getElem? hx
        simp only [List.mem_cons, List.not_mem_nil, or_false] at hm
        rcases hm with rfl | rfl | rfl
        · exact ⟨sp, rfl, s0, by omega⟩
        · exact ⟨39, rfl, by decide, by decide⟩
        · exact ⟨0, rfl, by decide, by decide⟩
      clear hx
      walk_at "gm"
      refine ⟨by show 5 ≤ sizeLine; decide, fun lb nlb => ?_⟩
      have hT3 := hT2.ext (Ex.new (o := .lst [.int 0, .int (-1), .bl true, .non, .str "1"]) nlb)
      have x3 := x2.trans (ext_new (o := .lst [.int 0, .int (-1), .bl true, .non, .str "1"]) nlb)
      have hlb : (upd H2 lb (.lst [.int 0, .int (-1), .bl true, .non, .str "1"])) lb = some (.lst [.int 0, .int (-1), .bl true, .non, .str "1"]) := upd_same
      generalize upd H2 lb (.lst [.int 0, .int (-1), .bl true, .non, .str "1"]) = H3 at hT3 x3 hlb ⊢
      clear hT2 x2 nlb
      refine ⟨lb, rfl, ⟨_, .inl (.inl hlb)⟩, f_list (K := K) (a := lb) (xs := [.int 0, .int (-1), .bl true, .non, .str "1"]) (fun i σ H' => ∃ y2 y3 y4, σ = [some (.int wh), some (.int s), y2, y3, y4, none] ∧ ExtN H3 H' ∧ Tabs T H') ⟨_, _, _, rfl, ExtN.refl _, hT3⟩ (fun i σ H' _ h => by obtain ⟨_, _, _, _, x, _⟩ := h; exact sqL_ext x (.inl (.inl hlb))) (fun i x σ H4 hx h => ?_) (fun σ H4 h => ?_)⟩
      · obtain ⟨y2, y3, y4, rfl, x4, hT4⟩ := h
        have hm := List.mem_of_getElem? hx
        clear hx
        walk_at "gm"
        refine ⟨by show 1 ≤ sizeLine; decide, fun l1 n1 => ?_⟩
        walk_at "gm"
        refine ⟨l1, s, [.int 2], rfl, rfl, upd_same, by omega, by omega, Nat.le_trans (m := 100) (by show 1 * s.toNat ≤ 100; omega) (by decide), fun l2 n2 => ?_⟩
        walk_at "gm"
        refine ⟨by show 1 ≤ sizeLine; decide, fun l3 n3 => ?_⟩
        refine c_cat (Ex.new n3 _ _ upd_same) upd_same (by rw [rep_len]; simp; omega) fun l4 n4 => ?_
        walk_at "gm"
        refine ⟨by show 1 ≤ sizeLine; decide, fun l5 n5 => ?_⟩
        walk_at "gm"
        refine ⟨l5, 39 - s, [.int 3], rfl, rfl, upd_same, by omega, by omega, Nat.le_trans (m := 100) (by show 1 * (39 - s).toNat ≤ 100; omega) (by decide), fun l6 n6 => ?_⟩
        refine c_cat (((Ex.new n5).trans (Ex.new n6)) _ _ upd_same) upd_same (by rw [List.length_append, rep_len, rep_len]; simp; omega) fun l7 n7 => ?_
        have eA := (((Ex.new n1).trans (Ex.new n2)).trans (Ex.new n3)).trans (((Ex.new n4).trans (Ex.new n5)).trans (Ex.new (o := .lst (List.replicate (39 - s).toNat [V.int 3]).flatten) n6))
        generalize upd (upd (upd (upd (upd (upd H4 l1 (.lst [.int 2])) l2 (.lst (List.replicate s.toNat [V.int 2]).flatten)) l3 (.lst [x])) l4 (.lst ((List.replicate s.toNat [V.int 2]).flatten ++ [x]))) l5 (.lst [.int 3])) l6 (.lst (List.replicate (39 - s).toNat [V.int 3]).flatten) = H5 at eA n7 ⊢
        have eB := eA.trans (Ex.new (o := .lst ((List.replicate s.toNat [V.int 2]).flatten ++ [x] ++ (List.replicate (39 - s).toNat [V.int 3]).flatten)) n7)
        have h7 : (upd H5 l7 (.lst ((List.replicate s.toNat [V.int 2]).flatten ++ [x] ++ (List.replicate (39 - s).toNat [V.int 3]).flatten))) l7 = some (.lst ((List.replicate s.toNat [V.int 2]).flatten ++ [x] ++ (List.replicate (39 - s).toNat [V.int 3]).flatten)) := upd_same
        generalize upd H5 l7 (.lst ((List.replicate s.toNat [V.int 2]).flatten ++ [x] ++ (List.replicate (39 - s).toNat [V.int 3]).flatten)) = H6 at eB h7 ⊢
        have nt : NotT K H6 (.ref l7) := notT_amid h7 (by omega) (badFive x hm)
        have hT6 := hT4.ext eB
        have x6 := x4.trans (ext_of eB)
        clear eA n7 n1 n2 n3 n4 n5 n6 eB h7 hT4 x4 hm
        walk_at "gm"
        refine c_lam hT6 (fun f0 c0 H7 x7 _ hT7 _ hf0 hc0 => ?_)
        walk_at "gm"
        refine c_lam hT7 (fun f1 c1 H8 x8 _ hT8 _ hf1 hc1 => ?_)
        walk_at "gm"
        refine c_lam hT8 (fun f2 c2 H9 x9 _ hT9 _ hf2 hc2 => ?_)
        walk_at "gm"
        refine ⟨by show 3 ≤ sizeLine; decide, fun lc nlc => ?_⟩
        walk_at "gm"
        refine c_lam (hT9.ext (Ex.new nlc)) (fun f3 c3 H10 x10 _ hT10 _ hf3 hc3 => ?_)
        walk_at "gm"
        refine c_lam hT10 (fun f4 c4 H11 x11 _ hT11 _ hf4 hc4 => ?_)
        walk_at "gm"
        refine ⟨by show 2 ≤ sizeLine; decide, fun ld nld => ?_⟩
        have hlc := lst_ext (x10.trans x11) upd_same
        refine c_cat (Ex.new nld _ _ hlc) upd_same (by show 3 + 2 ≤ 100000; decide) fun le nle => ?_
        have ez := (Ex.new (o := .lst [.ref f3, .ref f4]) nld).trans (Ex.new (o := .lst ([.ref f0, .ref f1, .ref f2] ++ [.ref f3, .ref f4])) nle)
        have hle : (upd (upd H11 ld (.lst [.ref f3, .ref f4])) le (.lst ([.ref f0, .ref f1, .ref f2] ++ [.ref f3, .ref f4]))) le = some (.lst ([f0, f1, f2, f3, f4].map V.ref)) := upd_same
        generalize upd (upd H11 ld (.lst [.ref f3, .ref f4])) le (.lst ([.ref f0, .ref f1, .ref f2] ++ [.ref f3, .ref f4])) = Hz at ez hle ⊢
        have hTz := hT11.ext ez
        have xz := ext_of ez
        have x11z := x11.trans xz
        have x9z := (ext_new (o := .lst [.ref f0, .ref f1, .ref f2]) nlc).trans (x10.trans x11z)
        have x8z := x9.trans x9z
        have x7z := x8.trans x8z
        have x6z := x7.trans x7z
        have zf0 := lam_ext x7z hf0
        have zc0 := code_ext x7z hc0
        have zf1 := lam_ext x8z hf1
        have zc1 := code_ext x8z hc1
        have zf2 := lam_ext x9z hf2
        have zc2 := code_ext x9z hc2
        have zf3 := lam_ext x11z hf3
        have zc3 := code_ext x11z hc3
        have zf4 := lam_ext xz hf4
        have zc4 := code_ext xz hc4
        have ntz := nt.ext x6z
        have x3z := x6.trans x6z
        clear hf0 hc0 hf1 hc1 hf2 hc2 hf3 hc3 hf4 hc4 x11z x9z x8z x7z x6z xz ez nle nld nlc x11 x10 x9 x8 x7 hT6 hT7 hT8 hT9 hT10 hT11 hlc nt x6
        have ask : ∀ f ∈ [f0, f1, f2, f3, f4], ∀ H', Ex Hz H' → Asks P w K mg base 5 f H' (spRef H' (.ref l7) (C 0)) := by
          clear hle
          intro f hf
          simp only [List.mem_cons, List.not_mem_nil, or_false] at hf
          rcases hf with rfl | rfl | rfl | rfl | rfl <;> intro H' e <;> have hv := ntz.ext (ext_of e)
          · have hf := e _ _ zf0
            have hc := e _ _ zc0
            refine (asks_lam (x := "_law_one") hf hc ⟨rfl, rfl, rfl, by decide, rfl, by dsimp only; decide +kernel, by dsimp only; decide +kernel, by dsimp only; decide +kernel, by dsimp only; decide +kernel⟩ (fun _ _ us hl => match us, hl with | [_], _ => rfl) (fun f A outer s Q E hr q => ⟨_, (pe_dx x_is_open hr (by decide) (L2N.takes_of rfl rfl rfl rfl) (by rfl) (pa_cons (pv 0) (pa_cons pe_non pa_nil))), ?_⟩))
            walk_at "gx"
            exact ⟨_, _, rfl, .inl ⟨hv, q⟩⟩
          · have hf := e _ _ zf1
            have hc := e _ _ zc1
            refine (asks_lam (x := "_law_two") hf hc ⟨rfl, rfl, rfl, by decide, rfl, by dsimp only; decide +kernel, by dsimp only; decide +kernel, by dsimp only; decide +kernel, by dsimp only; decide +kernel⟩ (fun _ _ us hl => match us, hl with | [_], _ => rfl) (fun f A outer s Q E hr q => ⟨_, (pe_dx x_open_doors hr (by decide) (L2N.takes_of rfl rfl rfl rfl) (by rfl) (pa_cons (pv 0) (pa_cons pe_non pa_nil))), ?_⟩))
            walk_at "gx"
            exact ⟨_, _, rfl, .inl ⟨hv, q⟩⟩
          · have hf := e _ _ zf2
            have hc := e _ _ zc2
            refine (asks_lam (x := "_law_three") hf hc ⟨rfl, rfl, rfl, by decide, rfl, by dsimp only; decide +kernel, by dsimp only; decide +kernel, by dsimp only; decide +kernel, by dsimp only; decide +kernel⟩ (fun _ _ us hl => match us, hl with | [_], _ => rfl) (fun f A outer s Q E hr q => ⟨_, (pe_dx x_kept hr (by decide) (L2N.takes_of rfl rfl rfl rfl) (by rfl) (pa_cons (pv 0) pa_nil)), ?_⟩))
            walk_at "gx"
            exact ⟨_, rfl, hv, q⟩
          · have hf := e _ _ zf3
            have hc := e _ _ zc3
            refine (asks_lam (x := "_law_four") hf hc ⟨rfl, rfl, rfl, by decide, rfl, by dsimp only; decide +kernel, by dsimp only; decide +kernel, by dsimp only; decide +kernel, by dsimp only; decide +kernel⟩ (fun _ _ us hl => match us, hl with | [_], _ => rfl) (fun f A outer s Q E hr q => ⟨_, (pe_dx x_compared hr (by decide) (L2N.takes_of rfl rfl rfl rfl) (by rfl) (pa_cons (pv 0) (pa_cons pe_non pa_nil))), ?_⟩))
            walk_at "gx"
            exact ⟨_, _, rfl, q, .inl hv⟩
          · have hf := e _ _ zf4
            have hc := e _ _ zc4
            refine (asks_lam (x := "_law_five") hf hc ⟨rfl, rfl, rfl, by decide, rfl, by dsimp only; decide +kernel, by dsimp only; decide +kernel, by dsimp only; decide +kernel, by dsimp only; decide +kernel⟩ (fun _ _ us hl => match us, hl with | [_], _ => rfl) (fun f A outer s Q E hr q => ⟨_, (pe_dx x_round_of hr (by decide) (L2N.takes_of rfl rfl rfl rfl) (by rfl) (pa_cons (pv 0) pa_nil)), ?_⟩))
            walk_at "gx"
            exact ⟨_, rfl, hv, q⟩
        walk_at "gm"
        refine el_lcL (K := K) (σ := [some (.int wh), some (.int s), some x, some (.ref l7), some (.ref le), none]) (fun _ => true) (fun _ => V.bl true) (ev_var rfl) (.inl (.inl hle)) (by simp) (fun x => rfl) (fun j x H1 e1 hx => ?_) (fun j x H1 e1 hx _ => ?_) Hz (Ex.refl Hz) _ (fun p Hy hp ey hy => ?_)
        · exact fun H2 _ QB k => k H2 (Ex.refl H2)
        · obtain ⟨f, hf, rfl⟩ := List.mem_map.mp (List.mem_of_getElem? hx)
          intro H2 e2 Q2 k
          walk_at "gm"
          exact ⟨f, .ref l7, 0, by decide, rfl, ask f hf H2 (e1.trans e2), k⟩
        rw [given_true _ fun _ => true] at hy
        walk_at "gm"
        refine c_all (.inl (.inl hy)) ?_
        rw [show ((List.range ([f0, f1, f2, f3, f4].map V.ref).length).map fun _ => true).all id = true from rfl]
        walk_at "gm"
        exact ⟨_, _, _, rfl, x3z.trans (ext_of ey), hTz.ext ey⟩
      · obtain ⟨y2, y3, y4, rfl, x4, hT4⟩ := h
        exact ⟨_, _, _, _, rfl, x3.trans x4, hT4⟩
    · obtain ⟨y1, y2, y3, y4, rfl, _, hT2⟩ := h
      walk_at "gm"
      refine c_lam hT2 (fun f5 c5 H3 x3 _ hT3 _ hf5 hc5 => ?_)
      walk_at "gm"
      refine ⟨by show 1 ≤ sizeLine; decide, fun l1 n1 => ?_⟩
      walk_at "gm"
      refine ⟨l1, 41, [.int 1], rfl, rfl, upd_same, by decide, by decide, by decide, fun l2 n2 => ?_⟩
      have e4 := (Ex.new (o := .lst [.int 1]) n1).trans (Ex.new (o := .lst (List.replicate (41 : Int).toNat [V.int 1]).flatten) n2)
      have h2 : (upd (upd H3 l1 (.lst [.int 1])) l2 (.lst (List.replicate (41 : Int).toNat [V.int 1]).flatten)) l2 = some (.lst (List.replicate (41 : Int).toNat [V.int 1]).flatten) := upd_same
      generalize upd (upd H3 l1 (.lst [.int 1])) l2 (.lst (List.replicate (41 : Int).toNat [V.int 1]).flatten) = H4 at e4 h2 ⊢
      have hf := e4 _ _ hf5
      have hc := e4 _ _ hc5
      walk_at "gm"
      refine ⟨f5, .ref l2, 0, by decide, rfl, (asks_lam (x := "_law_one") hf hc ⟨rfl, rfl, rfl, by decide, rfl, by dsimp only; decide +kernel, by dsimp only; decide +kernel, by dsimp only; decide +kernel, by dsimp only; decide +kernel⟩ (fun _ _ us hl => match us, hl with | [_], _ => rfl) (fun f A outer s Q E hr q => ⟨_, (pe_dx x_kept hr (by decide) (L2N.takes_of rfl rfl rfl rfl) (by rfl) (pa_cons (pv 0) pa_nil)), ?_⟩)), fun H5 e5 => ?_⟩
      · walk_at "gx"
        exact ⟨_, rfl, .inr ⟨l2, _, rfl, .inl (.inl h2), .inl (by rw [rep_len]; decide)⟩, q⟩
      have hT5 := (hT3.ext e4).ext e5
      clear hf hc h2 e4 e5 n1 n2 hf5 hc5 hT3 x3 hT2
      walk_at "gm"
      refine c_lam hT5 (fun f6 c6 H6 x6 _ hT6 _ hf6 hc6 => ?_)
      walk_at "gm"
      refine ⟨by show 1 ≤ sizeLine; decide, fun l1 n1 => ?_⟩
      have e7 := Ex.new (o := .lst [.int 0]) n1
      have h1 : (upd H6 l1 (.lst [.int 0])) l1 = some (.lst [.int 0]) := upd_same
      generalize upd H6 l1 (.lst [.int 0]) = H7 at e7 h1 ⊢
      have hf := e7 _ _ hf6
      have hc := e7 _ _ hc6
      walk_at "gm"
      refine ⟨f6, .ref l1, 0, by decide, rfl, (asks_lam (x := "_law_one") hf hc ⟨rfl, rfl, rfl, by decide, rfl, by dsimp only; decide +kernel, by dsimp only; decide +kernel, by dsimp only; decide +kernel, by dsimp only; decide +kernel⟩ (fun _ _ us hl => match us, hl with | [_], _ => rfl) (fun f A outer s Q E hr q => ⟨_, (pe_dx x_compared hr (by decide) (L2N.takes_of rfl rfl rfl rfl) (by rfl) (pa_cons (pe_lst (pa_cons pe_int pa_nil)) (pa_cons (pv 0) pa_nil))), ?_⟩)), fun H8 e8 => ?_⟩
      · walk_at "gx"
        refine ⟨by show 1 ≤ sizeLine; decide, fun l n => ?_⟩
        walk_at "gx"
        exact ⟨_, _, rfl, fun H2 e2 => q H2 ((Ex.new n).trans e2), .inr ⟨l, [1], rfl, .inl (.inl upd_same), good_of (by simp) (by simp), .inr ⟨l1, _, rfl, .inl (.inl (Ex.new n _ _ h1)), .inr ⟨by simp, (fun x hx => by
          have : x = .int 0 := by simpa using hx
          subst this
          exact .inl ⟨0, rfl, trivial⟩), .int 0, by simp, rfl⟩⟩⟩⟩
      have hT8 := (hT6.ext e7).ext e8
      clear hf hc h1 e7 e8 n1 hf6 hc6 hT6 x6 hT5
      walk_at "gm"
      refine ⟨by show 2 ≤ sizeLine; decide, fun d1 n1 => ?_⟩
      walk_at "gm"
      refine ⟨by show 2 ≤ sizeLine; decide, fun d2 n2 => ?_⟩
      walk_at "gm"
      refine ⟨by show 1 ≤ sizeLine; decide, fun d3 n3 => ?_⟩
      walk_at "gm"
      refine ⟨by show 1 ≤ sizeLine; decide, fun d4 n4 => ?_⟩
      walk_at "gm"
      refine ⟨by show 1 ≤ sizeLine; decide, fun d5 n5 => ?_⟩
      walk_at "gm"
      refine ⟨by show 1 ≤ sizeLine; decide, fun d6 n6 => ?_⟩
      walk_at "gm"
      refine ⟨by show 7 ≤ sizeLine; decide, fun d7 n7 => ?_⟩
      have b1 := Ex.new (o := .lst [.int 2, .int 1]) n1
      have b2 := Ex.new (o := .lst [.int 1, .int 1]) n2
      have b3 := Ex.new (o := .lst [.int 0]) n3
      have b4 := Ex.new (o := .lst [.int 11]) n4
      have b5 := Ex.new (o := .lst [.bl true]) n5
      have b6 := Ex.new (o := .tup [.int 1]) n6
      have b7 := Ex.new (o := .lst [.ref d1, .ref d2, .ref d3, .ref d4, .ref d5, .ref d6, .non]) n7
      have r67 := b6.trans b7
      have r57 := b5.trans r67
      have r47 := b4.trans r57
      have r37 := b3.trans r47
      have r27 := b2.trans r37
      have r17 := b1.trans r27
      have g1 := r27 _ _ upd_same
      have g2 := r37 _ _ upd_same
      have g3 := r47 _ _ upd_same
      have g4 := r57 _ _ upd_same
      have g5 := r67 _ _ upd_same
      have g6 := b7 _ _ upd_same
      have g7 : (upd (upd (upd (upd (upd (upd (upd H8 d1 (.lst [.int 2, .int 1])) d2 (.lst [.int 1, .int 1])) d3 (.lst [.int 0])) d4 (.lst [.int 11])) d5 (.lst [.bl true])) d6 (.tup [.int 1])) d7 (.lst [.ref d1, .ref d2, .ref d3, .ref d4, .ref d5, .ref d6, .non])) d7 = some (.lst [.ref d1, .ref d2, .ref d3, .ref d4, .ref d5, .ref d6, .non]) := upd_same
      generalize upd (upd (upd (upd (upd (upd (upd H8 d1 (.lst [.int 2, .int 1])) d2 (.lst [.int 1, .int 1])) d3 (.lst [.int 0])) d4 (.lst [.int 11])) d5 (.lst [.bl true])) d6 (.tup [.int 1])) d7 (.lst [.ref d1, .ref d2, .ref d3, .ref d4, .ref d5, .ref d6, .non]) = H9 at r17 g1 g2 g3 g4 g5 g6 g7 ⊢
      have hT9 := hT8.ext r17
      have al : ∀ v ∈ [V.ref d1, .ref d2, .ref d3, .ref d4, .ref d5, .ref d6, .non], NotDs K 10 H9 v := by
        intro v hv
        simp only [List.mem_cons, List.not_mem_nil, or_false] at hv
        rcases hv with rfl | rfl | rfl | rfl | rfl | rfl | rfl
        · exact notD_fall (D := [2, 1]) g1 (by decide) (by decide) 0 (by decide) (by decide)
        · exact notD_fall (D := [1, 1]) g2 (by decide) (by decide) 0 (by decide) (by decide)
        · exact notD_x g3 (.inl ⟨_, rfl, trivial⟩) rfl
        · exact notD_x g4 (.inl ⟨_, rfl, trivial⟩) rfl
        · exact notD_x g5 (.inr (.inl ⟨_, rfl⟩)) rfl
        · exact .inl (no_tup g6 k_tl)
        · exact .inl (no_non k_nl)
      clear r17 r27 r37 r47 r57 r67 b1 b2 b3 b4 b5 b6 b7 g1 g2 g3 g4 g5 g6 n1 n2 n3 n4 n5 n6 n7 hT8
      walk_at "gm"
      refine ⟨d7, rfl, ⟨_, .inl (.inl g7)⟩, f_list (K := K) (a := d7) (xs := [.ref d1, .ref d2, .ref d3, .ref d4, .ref d5, .ref d6, .non]) (fun i σ H' => ∃ y2, σ = [some (.int wh), y1, y2, y3, y4, none] ∧ ExtN H9 H' ∧ Tabs T H') ⟨_, rfl, ExtN.refl _, hT9⟩ (fun i σ H' _ h => by obtain ⟨_, _, x, _⟩ := h; exact sqL_ext x (.inl (.inl g7))) (fun i x σ Ha hx h => ?_) (fun σ Ha h => ?_)⟩
      · obtain ⟨y2, rfl, xa, hTa⟩ := h
        have hv := (al x (List.mem_of_getElem? hx)).ext xa
        clear hx
        walk_at "gm"
        refine c_lam hTa (fun f7 c7 Hb xb _ hTb _ hf hc => ?_)
        have hv := hv.ext xb
        walk_at "gm"
        refine ⟨f7, x, 3, by decide, rfl, (asks_lam (x := "_law_doors") hf hc ⟨rfl, rfl, rfl, by decide, rfl, by dsimp only; decide +kernel, by dsimp only; decide +kernel, by dsimp only; decide +kernel, by dsimp only; decide +kernel⟩ (fun _ _ us hl => match us, hl with | [_], _ => rfl) (fun f A outer s Q E hr q => ⟨_, (pe_dx x_turners_for hr (by decide) (L2N.takes_of rfl rfl rfl rfl) (by rfl) (pa_cons pe_int (pa_cons (pv 0) pa_nil))), ?_⟩)), fun Hc ec => ?_⟩
        · walk_at "gx"
          exact ⟨_, _, rfl, .inr ⟨10, rfl, by decide, by decide, hv, q⟩⟩
        walk_at "gm"
        exact ⟨_, rfl, xa.trans (xb.trans (ext_of ec)), hTb.ext ec⟩
      obtain ⟨y2, rfl, _, hTa⟩ := h
      clear al g7 hT9
      walk_at "gm"
      refine ⟨by show 4 ≤ sizeLine; decide, fun lb nlb => ?_⟩
      have hTb := hTa.ext (Ex.new (o := .lst [.int (-1), .int 1001, .bl true, .non]) nlb)
      have hlb : (upd Ha lb (.lst [.int (-1), .int 1001, .bl true, .non])) lb = some (.lst [.int (-1), .int 1001, .bl true, .non]) := upd_same
      generalize upd Ha lb (.lst [.int (-1), .int 1001, .bl true, .non]) = Hb at hTb hlb ⊢
      clear hTa nlb
      walk_at "gm"
      refine ⟨lb, rfl, ⟨_, .inl (.inl hlb)⟩, f_list (K := K) (a := lb) (xs := [.int (-1), .int 1001, .bl true, .non]) (fun i σ H' => ∃ y2, σ = [some (.int wh), y1, y2, y3, y4, none] ∧ ExtN Hb H' ∧ Tabs T H') ⟨_, rfl, ExtN.refl _, hTb⟩ (fun i σ H' _ h => by obtain ⟨_, _, x, _⟩ := h; exact sqL_ext x (.inl (.inl hlb))) (fun i x σ Hc hx h => ?_) (fun σ Hc h => ?_)⟩
      · obtain ⟨y2, rfl, xc, hTc⟩ := h
        have hm := List.mem_of_getElem? hx
        clear hx
        walk_at "gm"
        refine c_lam hTc (fun f8 c8 Hd xd _ hTd _ hf hc => ?_)
        walk_at "gm"
        refine ⟨f8, x, 2, by decide, rfl, (asks_lam (x := "_law_many") hf hc ⟨rfl, rfl, rfl, by decide, rfl, by dsimp only; decide +kernel, by dsimp only; decide +kernel, by dsimp only; decide +kernel, by dsimp only; decide +kernel⟩ (fun _ _ us hl => match us, hl with | [_], _ => rfl) (fun f A outer s Q E hr q => ⟨_, (pe_dx x_turners_for hr (by decide) (L2N.takes_of rfl rfl rfl rfl) (by rfl) (pa_cons (pv 0) (pa_cons pe_non pa_nil))), ?_⟩)), fun He ee => ?_⟩
        · walk_at "gx"
          exact ⟨_, _, rfl, .inl ⟨badSmall x hm, q⟩⟩
        have hTe := hTd.ext ee
        walk_at "gm"
        refine c_lam hTe (fun f9 c9 Hg xg _ hTg _ hf2 hc2 => ?_)
        walk_at "gm"
        refine ⟨f9, x, 2, by decide, rfl, (asks_lam (x := "_law_many") hf2 hc2 ⟨rfl, rfl, rfl, by decide, rfl, by dsimp only; decide +kernel, by dsimp only; decide +kernel, by dsimp only; decide +kernel, by dsimp only; decide +kernel⟩ (fun _ _ us hl => match us, hl with | [_], _ => rfl) (fun f A outer s Q E hr q => ⟨_, (pe_dx x_open_doors hr (by decide) (L2N.takes_of rfl rfl rfl rfl) (by rfl) (pa_cons (pe_lst (pa_cons pe_int pa_nil)) (pa_cons (pv 0) pa_nil))), ?_⟩)), fun Hh eh => ?_⟩
        · walk_at "gx"
          refine ⟨by show 1 ≤ sizeLine; decide, fun l n => ?_⟩
          walk_at "gx"
          exact ⟨_, _, rfl, .inr ⟨l, [1], rfl, .inl (.inl upd_same), good_of (by simp) (by simp), badSmall x hm, fun H2 e2 => q H2 ((Ex.new n).trans e2)⟩⟩
        walk_at "gm"
        exact ⟨_, rfl, xc.trans (xd.trans ((ext_of ee).trans (xg.trans (ext_of eh)))), hTg.ext eh⟩
      obtain ⟨y2, rfl, _, hTc⟩ := h
      clear hlb hTb
      walk_at "gm"
      refine ⟨by show 4 ≤ sizeLine; decide, fun lc nlc => ?_⟩
      have hTd := hTc.ext (Ex.new (o := .lst [.int 0, .int (-1), .bl true, .non]) nlc)
      have hlc : (upd Hc lc (.lst [.int 0, .int (-1), .bl true, .non])) lc = some (.lst [.int 0, .int (-1), .bl true, .non]) := upd_same
      generalize upd Hc lc (.lst [.int 0, .int (-1), .bl true, .non]) = Hd at hTd hlc ⊢
      clear hTc nlc
      walk_at "gm"
      refine ⟨lc, rfl, ⟨_, .inl (.inl hlc)⟩, f_list (K := K) (a := lc) (xs := [.int 0, .int (-1), .bl true, .non]) (fun i σ H' => ∃ y2, σ = [some (.int wh), y1, y2, y3, y4, none] ∧ ExtN Hd H' ∧ Tabs T H') ⟨_, rfl, ExtN.refl _, hTd⟩ (fun i σ H' _ h => by obtain ⟨_, _, x, _⟩ := h; exact sqL_ext x (.inl (.inl hlc))) (fun i x σ He hx h => ?_) (fun σ He h => ?_)⟩
      · obtain ⟨y2, rfl, xe, hTe⟩ := h
        have hm := List.mem_of_getElem? hx
        clear hx
        walk_at "gm"
        refine c_lam hTe (fun f10 c10 Hg xg _ hTg _ hf hc => ?_)
        walk_at "gm"
        refine ⟨f10, x, 1, by decide, rfl, (asks_lam (x := "_law_door") hf hc ⟨rfl, rfl, rfl, by decide, rfl, by dsimp only; decide +kernel, by dsimp only; decide +kernel, by dsimp only; decide +kernel, by dsimp only; decide +kernel⟩ (fun _ _ us hl => match us, hl with | [_], _ => rfl) (fun f A outer s Q E hr q => ⟨_, (pe_dx x_is_open hr (by decide) (L2N.takes_of rfl rfl rfl rfl) (by rfl) (pa_cons (pe_lst (pa_cons pe_int pa_nil)) (pa_cons (pv 0) pa_nil))), ?_⟩)), fun Hh eh => ?_⟩
        · walk_at "gx"
          refine ⟨by show 1 ≤ sizeLine; decide, fun l n => ?_⟩
          walk_at "gx"
          exact ⟨_, _, rfl, .inr ⟨l, [1], rfl, .inl (.inl upd_same), good_of (by simp) (by simp), badDoor x hm, fun H2 e2 => q H2 ((Ex.new n).trans e2)⟩⟩
        walk_at "gm"
        exact ⟨_, rfl, xe.trans (xg.trans (ext_of eh)), hTg.ext eh⟩
      obtain ⟨y2, rfl, _, hTe⟩ := h
      walk_at "gm"
      refine ⟨by show 1 ≤ sizeLine; decide, fun l1 n1 => ?_⟩
      walk_at "gm"
      refine ⟨l1, [1], 1000, rfl, .inl (.inl upd_same), good_of (by simp) (by simp), by decide, fun p1 Hg np1 eg hp1 => ?_⟩
      rw [opens_all] at hp1
      walk_at "gm"
      refine c_len (.inl (.inl hp1)) ?_
      rw [List.length_map, upto_len]
      walk_at "gm"
      exact q _
end
abbrev s_law : Stmt := topS 47
section
open LamX
variable {P : Program} {w : World} {K : PySem.W.Frag} {mg : Str → Option Value} {base : Heap}
def spLaw (K : PySem.W.Frag) (T : List (Addr × Str)) : Sp := fun vs H Q _ => ∃ (a : Addr) (ns : List Int), vs = [.ref a] ∧ SqL K H a (ns.map V.int) ∧ Tabs T H ∧ ns.length ≤ 63 ∧ Bits ns ∧ ∀ H', Q (.bl true) H'
theorem ok_law {T : List (Addr × Str)} {f : Addr} {fd : FuncData} (F : Fun K "law" "law" s_law f fd) (B : Blt mg) (c__law_known_right : Cal P w K mg base CX0 7 "_law_known_right" (spKR T)) (c__law_far_right : Cal P w K mg base CX0 7 "_law_far_right" (spFR T)) (c__law_bad_right : Cal P w K mg base CX0 7 "_law_bad_right" (spBR T)) : FnOk P w K mg base CX0 8 f fd ["_law_script"] (spLaw K T) := by
  have sc : FnScope ["_law_script", "_law_whole"] ["_law_script"] (defScope s_law) := ⟨rfl, rfl, rfl, by decide +kernel, rfl, by decide +kernel, by decide +kernel⟩
  refine F.ok sc (fun vs H Q E h => ?_) (fun cdv A outer s H vs Q E hr h => ?_)
  · obtain ⟨a, ns, rfl, _⟩ := h
    rfl
  · obtain ⟨a, ns, rfl, hS, hT, hl, hB, q⟩ := h
    refine ⟨_, (pss_cons (ps_set (i := 1) sc.nd rfl (by first | exact Or.inl rfl | exact Or.inr rfl) (pe_callB call_abs_s (by rfl) B.abs_ boot_abs (pa_cons (pe_callB (cr_sum rfl) (by rfl) B.sum_ boot_sum (pa_cons (pe_slice sl_list (pv 0) po_none (po_some pe_int)) pa_nil)) pa_nil)))
      (pss_cons (ps_if (PW.pt (pw_or (pt_not (pt_val (pe_d c__law_known_right hr (by decide) (by rfl) (pa_cons (pe_op op_add pe_int (pe_op op_mod (pv 1) pe_int)) pa_nil)))) (pw_or1 (pt_not (pt_val (pe_d c__law_far_right hr (by decide) (by rfl) (pa_cons (pe_op op_add pe_int (pv 1)) pa_nil)))))))
      (pss_one (ps_ret pe_bl)) pss_nil)
      (pss_one (ps_ret (pe_d c__law_bad_right hr (by decide) (by rfl) (pa_cons (pv 1) pa_nil)))))), ?_⟩
    walk_at "gm"
    refine ⟨a, _, rfl, hS, fun c nc => ?_⟩
    rw [cut63 (by rw [List.length_map]; exact hl)]
    walk_at "gm"
    refine c_sum (.inl (.inl upd_same)) ?_
    walk_at "gm"
    refine c_abs ?_
    have hT1 := hT.ext (Ex.new (o := .lst (ns.map V.int)) nc)
    generalize upd H c (.lst (ns.map V.int)) = Hc at hT1 ⊢
    have hw : ns.sum.natAbs < 2 ^ (1048576 + 6) := num_sum63 (fun z hz => num_bits (hB z hz)) hl
    generalize ns.sum.natAbs = W0 at hw
    walk_at "gm"
    refine c_I (by decide) ?_
    have k0 : 0 ≤ (W0 : Int) % 40 := Int.emod_nonneg _ (by decide)
    have k1 : (W0 : Int) % 40 < 40 := Int.emod_lt_of_pos _ (by decide)
    obtain ⟨k, hk⟩ := Int.eq_ofNat_of_zero_le k0
    rw [hk] at k0 k1 ⊢
    walk_at "gm"
    refine ⟨1 + k, by rw [Int.natCast_add]; rfl, by omega, by omega, hT1, fun H2 x2 hT2 => ?_⟩
    walk_at "gm"
    refine ⟨6 + (W0 : Int), rfl, by omega, ?_, hT2, fun H3 x3 hT3 => ?_⟩
    · have h2 : (6 + (W0 : Int)).natAbs < 2 ^ (1048576 + 6 + 1) := by
        have h1 : (2 : Nat) ^ (1048576 + 6 + 1) = 2 ^ (1048576 + 6) + 2 ^ (1048576 + 6) := by rw [Nat.pow_succ]; omega
        have h3 : (2 : Nat) ^ 6 ≤ 2 ^ (1048576 + 6) := Nat.pow_le_pow_right (by decide) (by decide)
        have h4 : (2 : Nat) ^ 6 = 64 := by decide
        generalize (2 : Nat) ^ (1048576 + 6) = X at *
        generalize (2 : Nat) ^ (1048576 + 6 + 1) = Y at *
        omega
      exact num_le h2 (by decide)
    walk_at "gm"
    exact ⟨_, rfl, hT3, fun H4 => q H4⟩
end
theorem all_mk {l : PySem.W.OpenLaw} {w : World} {K : PySem.W.Frag} {h : Heap} {mg : Str → Option Value} {fa : Addr} (X : K.In h) (G : h.Ns mainGlobals mg) (hfa : mg "law" = some (.ref fa)) (own : ∀ y ∈ (["_law_known_right", "_law_far_right", "_law_bad_right"] : List Str), ∀ c P, PySem.W.tabIn K y = some (c, P) → PySem.W.CodeHd h c P ∧ h.get? P = some (PySem.W.tabObj #[]))
    {C_Answer : Addr}
    {C_Same : Addr}
    {C_Unlike : Addr}
    {C_DoorError : Addr}
    {C_BadTurners : Addr}
    {C_BadDoor : Addr}
    {C_BadCount : Addr}
    {C_BadDoors : Addr}
    {C_BadStretch : Addr}
    {C_TooMany : Addr}
    {f_is_number : Addr} {od_is_number an_is_number : Option Addr} {sl_is_number : Array (Option Value)} {oc_is_number kV_is_number dc_is_number pm_is_number cd_is_number ct_is_number : Value}
    {f_asked_turners : Addr} {od_asked_turners an_asked_turners : Option Addr} {sl_asked_turners : Array (Option Value)} {oc_asked_turners kV_asked_turners dc_asked_turners pm_asked_turners cd_asked_turners ct_asked_turners : Value}
    {f_asked_door : Addr} {od_asked_door an_asked_door : Option Addr} {sl_asked_door : Array (Option Value)} {oc_asked_door kV_asked_door dc_asked_door pm_asked_door cd_asked_door ct_asked_door : Value}
    {f_asked_small : Addr} {od_asked_small an_asked_small : Option Addr} {sl_asked_small : Array (Option Value)} {oc_asked_small kV_asked_small dc_asked_small pm_asked_small cd_asked_small ct_asked_small : Value}
    {f_stands_open : Addr} {od_stands_open an_stands_open : Option Addr} {sl_stands_open : Array (Option Value)} {oc_stands_open kV_stands_open dc_stands_open pm_stands_open cd_stands_open ct_stands_open : Value}
    {f_is_open : Addr} {od_is_open an_is_open : Option Addr} {sl_is_open : Array (Option Value)} {oc_is_open kV_is_open dc_is_open pm_is_open cd_is_open ct_is_open : Value}
    {f_open_doors : Addr} {od_open_doors an_open_doors : Option Addr} {sl_open_doors : Array (Option Value)} {oc_open_doors kV_open_doors dc_open_doors pm_open_doors cd_open_doors ct_open_doors : Value}
    {f_left_over : Addr} {od_left_over an_left_over : Option Addr} {sl_left_over : Array (Option Value)} {oc_left_over kV_left_over dc_left_over pm_left_over cd_left_over ct_left_over : Value}
    {f_kept : Addr} {od_kept an_kept : Option Addr} {sl_kept : Array (Option Value)} {oc_kept kV_kept dc_kept pm_kept cd_kept ct_kept : Value}
    {f_Same_shows : Addr} {od_Same_shows an_Same_shows : Option Addr} {sl_Same_shows : Array (Option Value)} {oc_Same_shows kV_Same_shows dc_Same_shows pm_Same_shows cd_Same_shows ct_Same_shows : Value}
    {f_Unlike___init__ : Addr} {od_Unlike___init__ an_Unlike___init__ : Option Addr} {sl_Unlike___init__ : Array (Option Value)} {oc_Unlike___init__ kV_Unlike___init__ dc_Unlike___init__ pm_Unlike___init__ cd_Unlike___init__ ct_Unlike___init__ : Value}
    {f_Unlike_shows : Addr} {od_Unlike_shows an_Unlike_shows : Option Addr} {sl_Unlike_shows : Array (Option Value)} {oc_Unlike_shows kV_Unlike_shows dc_Unlike_shows pm_Unlike_shows cd_Unlike_shows ct_Unlike_shows : Value}
    {f_turners_for : Addr} {od_turners_for an_turners_for : Option Addr} {sl_turners_for : Array (Option Value)} {oc_turners_for kV_turners_for dc_turners_for pm_turners_for cd_turners_for ct_turners_for : Value}
    {f_common : Addr} {od_common an_common : Option Addr} {sl_common : Array (Option Value)} {oc_common kV_common dc_common pm_common cd_common ct_common : Value}
    {f_both : Addr} {od_both an_both : Option Addr} {sl_both : Array (Option Value)} {oc_both kV_both dc_both pm_both cd_both ct_both : Value}
    {f_asked_count : Addr} {od_asked_count an_asked_count : Option Addr} {sl_asked_count : Array (Option Value)} {oc_asked_count kV_asked_count dc_asked_count pm_asked_count cd_asked_count ct_asked_count : Value}
    {f_how_many : Addr} {od_how_many an_how_many : Option Addr} {sl_how_many : Array (Option Value)} {oc_how_many kV_how_many dc_how_many pm_how_many cd_how_many ct_how_many : Value}
    {f_round_of : Addr} {od_round_of an_round_of : Option Addr} {sl_round_of : Array (Option Value)} {oc_round_of kV_round_of dc_round_of pm_round_of cd_round_of ct_round_of : Value}
    {f_root : Addr} {od_root an_root : Option Addr} {sl_root : Array (Option Value)} {oc_root kV_root dc_root pm_root cd_root ct_root : Value}
    {f_by_all : Addr} {od_by_all an_by_all : Option Addr} {sl_by_all : Array (Option Value)} {oc_by_all kV_by_all dc_by_all pm_by_all cd_by_all ct_by_all : Value}
    {f_by_stretch : Addr} {od_by_stretch an_by_stretch : Option Addr} {sl_by_stretch : Array (Option Value)} {oc_by_stretch kV_by_stretch dc_by_stretch pm_by_stretch cd_by_stretch ct_by_stretch : Value}
    {f_compared : Addr} {od_compared an_compared : Option Addr} {sl_compared : Array (Option Value)} {oc_compared kV_compared dc_compared pm_compared cd_compared ct_compared : Value}
    {f__law_kinds : Addr} {od__law_kinds an__law_kinds : Option Addr} {sl__law_kinds : Array (Option Value)} {oc__law_kinds kV__law_kinds dc__law_kinds pm__law_kinds cd__law_kinds ct__law_kinds : Value}
    {f__law_refused : Addr} {od__law_refused an__law_refused : Option Addr} {sl__law_refused : Array (Option Value)} {oc__law_refused kV__law_refused dc__law_refused pm__law_refused cd__law_refused ct__law_refused : Value}
    {f__law_plain : Addr} {od__law_plain an__law_plain : Option Addr} {sl__law_plain : Array (Option Value)} {oc__law_plain kV__law_plain dc__law_plain pm__law_plain cd__law_plain ct__law_plain : Value}
    {f__law_truths : Addr} {od__law_truths an__law_truths : Option Addr} {sl__law_truths : Array (Option Value)} {oc__law_truths kV__law_truths dc__law_truths pm__law_truths cd__law_truths ct__law_truths : Value}
    {f__law_known_right : Addr} {od__law_known_right an__law_known_right : Option Addr} {sl__law_known_right : Array (Option Value)} {oc__law_known_right kV__law_known_right dc__law_known_right pm__law_known_right ct__law_known_right : Value} {c__law_known_right Pt__law_known_right : Addr} {oc2__law_known_right : Value} {od2__law_known_right : Option Addr} {sl2__law_known_right : Array (Option Value)} {fv__law_known_right : Array Value}
    {f__law_far_right : Addr} {od__law_far_right an__law_far_right : Option Addr} {sl__law_far_right : Array (Option Value)} {oc__law_far_right kV__law_far_right dc__law_far_right pm__law_far_right ct__law_far_right : Value} {c__law_far_right Pt__law_far_right : Addr} {oc2__law_far_right : Value} {od2__law_far_right : Option Addr} {sl2__law_far_right : Array (Option Value)} {fv__law_far_right : Array Value}
    {f__law_bad_right : Addr} {od__law_bad_right an__law_bad_right : Option Addr} {sl__law_bad_right : Array (Option Value)} {oc__law_bad_right kV__law_bad_right dc__law_bad_right pm__law_bad_right ct__law_bad_right : Value} {c__law_bad_right Pt__law_bad_right : Addr} {oc2__law_bad_right : Value} {od2__law_bad_right : Option Addr} {sl2__law_bad_right : Array (Option Value)} {fv__law_bad_right : Array Value}
    {f_law : Addr} {od_law an_law : Option Addr} {sl_law : Array (Option Value)} {oc_law kV_law dc_law pm_law cd_law ct_law : Value}
    {t_MOST : Tok}
    {t_SMALL : Tok}
    {t_FEW : Tok}
    {t_GREATEST : Tok}
    (aC_Answer : PySem.W.nsIn K mainGlobals "Answer" = some (some (.ref C_Answer)))
    (aC_Same : PySem.W.nsIn K mainGlobals "Same" = some (some (.ref C_Same)))
    (pg_Same : PySem.W.plainGet K C_Same Str.empty = true) (hd_Same : PySem.W.hasDictIn K C_Same = true) (po_Same : PySem.W.plainOver K C_Same = true) (sa_Same : PySem.W.findIn K (.ref C_Same) "__setattr__" = some (some (.builtin "object.__setattr__"))) (mk_Same : PySem.W.makesIn K C_Same = true) (kc_Same : PySem.W.keepIn K (.ref C_Same) = true) (tp_Same : PySem.W.mroIn K C_Same (.type "object") = some true) (ac_Same : PySem.W.findIn K (.ref C_Same) "__class__" = some (some (.builtin "object.__class__")))
    (aC_Unlike : PySem.W.nsIn K mainGlobals "Unlike" = some (some (.ref C_Unlike)))
    (pg_Unlike : PySem.W.plainGet K C_Unlike Str.empty = true) (hd_Unlike : PySem.W.hasDictIn K C_Unlike = true) (po_Unlike : PySem.W.plainOver K C_Unlike = true) (sa_Unlike : PySem.W.findIn K (.ref C_Unlike) "__setattr__" = some (some (.builtin "object.__setattr__"))) (mk_Unlike : PySem.W.makesIn K C_Unlike = true) (kc_Unlike : PySem.W.keepIn K (.ref C_Unlike) = true) (tp_Unlike : PySem.W.mroIn K C_Unlike (.type "object") = some true) (ac_Unlike : PySem.W.findIn K (.ref C_Unlike) "__class__" = some (some (.builtin "object.__class__")))
    (in_Same : PySem.W.findIn K (.ref C_Same) "__init__" = some (some (.builtin "object.__init__"))) (no_Unlike : PySem.W.findIn K (.ref C_Unlike) "door" = some none) (hn_O : PySem.W.specialIn K (.builtin "object.__class__") "__get__" = some (some (.builtin "getset_descriptor.__get__"))) (htk_O : PySem.W.takesIn K (.builtin "object.__class__") = some true)
    (su_Same_Answer : PySem.W.subIn K (.ref C_Same) (.ref C_Answer) = some true)
    (su_Same_Same : PySem.W.subIn K (.ref C_Same) (.ref C_Same) = some true)
    (su_Same_Unlike : PySem.W.subIn K (.ref C_Same) (.ref C_Unlike) = some false)
    (su_Unlike_Answer : PySem.W.subIn K (.ref C_Unlike) (.ref C_Answer) = some true)
    (su_Unlike_Same : PySem.W.subIn K (.ref C_Unlike) (.ref C_Same) = some false)
    (su_Unlike_Unlike : PySem.W.subIn K (.ref C_Unlike) (.ref C_Unlike) = some true)
    (ic_Answer : PySem.W.isClsIn K C_Answer = true) (ty_Answer : PySem.W.typeIn K (.ref C_Answer) = some (.type "type"))
    (ic_Same : PySem.W.isClsIn K C_Same = true) (ty_Same : PySem.W.typeIn K (.ref C_Same) = some (.type "type"))
    (ic_Unlike : PySem.W.isClsIn K C_Unlike = true) (ty_Unlike : PySem.W.typeIn K (.ref C_Unlike) = some (.type "type"))
    (aC_DoorError : PySem.W.nsIn K mainGlobals "DoorError" = some (some (.ref C_DoorError))) (sb_DoorError : PySem.W.subIn K (.ref C_DoorError) (.type "BaseException") = some true) (hd_DoorError : PySem.W.hasDictIn K C_DoorError = true) (ty_DoorError : PySem.W.typeIn K (.ref C_DoorError) = some (.type "type"))
    (aC_BadTurners : PySem.W.nsIn K mainGlobals "BadTurners" = some (some (.ref C_BadTurners)))
    (xp_BadTurners : PySem.W.excIn K C_BadTurners [.type "ValueError", .type "Exception", .type "BaseException", .type "object"] "ValueError.__new__" = true) (kc_BadTurners : PySem.W.keepIn K (.ref C_BadTurners) = true) (ty_BadTurners : PySem.W.typeIn K (.ref C_BadTurners) = some (.type "type")) (ic_BadTurners : PySem.W.isClsIn K C_BadTurners = true)
    (ga_BadTurners : PySem.W.findIn K (.ref C_BadTurners) "__getattribute__" = some (some (.builtin "BaseException.__getattribute__"))) (gg_BadTurners : PySem.W.findIn K (.ref C_BadTurners) "__getattr__" = some none) (sb_BadTurners : PySem.W.subIn K (.ref C_BadTurners) (.type "BaseException") = some true) (hd_BadTurners : PySem.W.hasDictIn K C_BadTurners = true) (ac_BadTurners : PySem.W.findIn K (.ref C_BadTurners) "__class__" = some (some (.builtin "object.__class__"))) (tp_BadTurners : PySem.W.mroIn K C_BadTurners (.type "object") = some true) (su_BadTurners_DoorError : PySem.W.subIn K (.ref C_BadTurners) (.ref C_DoorError) = some true)
    (aC_BadDoor : PySem.W.nsIn K mainGlobals "BadDoor" = some (some (.ref C_BadDoor)))
    (xp_BadDoor : PySem.W.excIn K C_BadDoor [.type "ValueError", .type "Exception", .type "BaseException", .type "object"] "ValueError.__new__" = true) (kc_BadDoor : PySem.W.keepIn K (.ref C_BadDoor) = true) (ty_BadDoor : PySem.W.typeIn K (.ref C_BadDoor) = some (.type "type")) (ic_BadDoor : PySem.W.isClsIn K C_BadDoor = true)
    (ga_BadDoor : PySem.W.findIn K (.ref C_BadDoor) "__getattribute__" = some (some (.builtin "BaseException.__getattribute__"))) (gg_BadDoor : PySem.W.findIn K (.ref C_BadDoor) "__getattr__" = some none) (sb_BadDoor : PySem.W.subIn K (.ref C_BadDoor) (.type "BaseException") = some true) (hd_BadDoor : PySem.W.hasDictIn K C_BadDoor = true) (ac_BadDoor : PySem.W.findIn K (.ref C_BadDoor) "__class__" = some (some (.builtin "object.__class__"))) (tp_BadDoor : PySem.W.mroIn K C_BadDoor (.type "object") = some true) (su_BadDoor_DoorError : PySem.W.subIn K (.ref C_BadDoor) (.ref C_DoorError) = some true)
    (aC_BadCount : PySem.W.nsIn K mainGlobals "BadCount" = some (some (.ref C_BadCount)))
    (xp_BadCount : PySem.W.excIn K C_BadCount [.type "ValueError", .type "Exception", .type "BaseException", .type "object"] "ValueError.__new__" = true) (kc_BadCount : PySem.W.keepIn K (.ref C_BadCount) = true) (ty_BadCount : PySem.W.typeIn K (.ref C_BadCount) = some (.type "type")) (ic_BadCount : PySem.W.isClsIn K C_BadCount = true)
    (ga_BadCount : PySem.W.findIn K (.ref C_BadCount) "__getattribute__" = some (some (.builtin "BaseException.__getattribute__"))) (gg_BadCount : PySem.W.findIn K (.ref C_BadCount) "__getattr__" = some none) (sb_BadCount : PySem.W.subIn K (.ref C_BadCount) (.type "BaseException") = some true) (hd_BadCount : PySem.W.hasDictIn K C_BadCount = true) (ac_BadCount : PySem.W.findIn K (.ref C_BadCount) "__class__" = some (some (.builtin "object.__class__"))) (tp_BadCount : PySem.W.mroIn K C_BadCount (.type "object") = some true) (su_BadCount_DoorError : PySem.W.subIn K (.ref C_BadCount) (.ref C_DoorError) = some true)
    (aC_BadDoors : PySem.W.nsIn K mainGlobals "BadDoors" = some (some (.ref C_BadDoors)))
    (xp_BadDoors : PySem.W.excIn K C_BadDoors [.type "ValueError", .type "Exception", .type "BaseException", .type "object"] "ValueError.__new__" = true) (kc_BadDoors : PySem.W.keepIn K (.ref C_BadDoors) = true) (ty_BadDoors : PySem.W.typeIn K (.ref C_BadDoors) = some (.type "type")) (ic_BadDoors : PySem.W.isClsIn K C_BadDoors = true)
    (ga_BadDoors : PySem.W.findIn K (.ref C_BadDoors) "__getattribute__" = some (some (.builtin "BaseException.__getattribute__"))) (gg_BadDoors : PySem.W.findIn K (.ref C_BadDoors) "__getattr__" = some none) (sb_BadDoors : PySem.W.subIn K (.ref C_BadDoors) (.type "BaseException") = some true) (hd_BadDoors : PySem.W.hasDictIn K C_BadDoors = true) (ac_BadDoors : PySem.W.findIn K (.ref C_BadDoors) "__class__" = some (some (.builtin "object.__class__"))) (tp_BadDoors : PySem.W.mroIn K C_BadDoors (.type "object") = some true) (su_BadDoors_DoorError : PySem.W.subIn K (.ref C_BadDoors) (.ref C_DoorError) = some true)
    (aC_BadStretch : PySem.W.nsIn K mainGlobals "BadStretch" = some (some (.ref C_BadStretch)))
    (xp_BadStretch : PySem.W.excIn K C_BadStretch [.type "ValueError", .type "Exception", .type "BaseException", .type "object"] "ValueError.__new__" = true) (kc_BadStretch : PySem.W.keepIn K (.ref C_BadStretch) = true) (ty_BadStretch : PySem.W.typeIn K (.ref C_BadStretch) = some (.type "type")) (ic_BadStretch : PySem.W.isClsIn K C_BadStretch = true)
    (ga_BadStretch : PySem.W.findIn K (.ref C_BadStretch) "__getattribute__" = some (some (.builtin "BaseException.__getattribute__"))) (gg_BadStretch : PySem.W.findIn K (.ref C_BadStretch) "__getattr__" = some none) (sb_BadStretch : PySem.W.subIn K (.ref C_BadStretch) (.type "BaseException") = some true) (hd_BadStretch : PySem.W.hasDictIn K C_BadStretch = true) (ac_BadStretch : PySem.W.findIn K (.ref C_BadStretch) "__class__" = some (some (.builtin "object.__class__"))) (tp_BadStretch : PySem.W.mroIn K C_BadStretch (.type "object") = some true) (su_BadStretch_DoorError : PySem.W.subIn K (.ref C_BadStretch) (.ref C_DoorError) = some true)
    (aC_TooMany : PySem.W.nsIn K mainGlobals "TooMany" = some (some (.ref C_TooMany)))
    (xp_TooMany : PySem.W.excIn K C_TooMany [.type "ValueError", .type "Exception", .type "BaseException", .type "object"] "ValueError.__new__" = true) (kc_TooMany : PySem.W.keepIn K (.ref C_TooMany) = true) (ty_TooMany : PySem.W.typeIn K (.ref C_TooMany) = some (.type "type")) (ic_TooMany : PySem.W.isClsIn K C_TooMany = true)
    (ga_TooMany : PySem.W.findIn K (.ref C_TooMany) "__getattribute__" = some (some (.builtin "BaseException.__getattribute__"))) (gg_TooMany : PySem.W.findIn K (.ref C_TooMany) "__getattr__" = some none) (sb_TooMany : PySem.W.subIn K (.ref C_TooMany) (.type "BaseException") = some true) (hd_TooMany : PySem.W.hasDictIn K C_TooMany = true) (ac_TooMany : PySem.W.findIn K (.ref C_TooMany) "__class__" = some (some (.builtin "object.__class__"))) (tp_TooMany : PySem.W.mroIn K C_TooMany (.type "object") = some true) (su_TooMany_DoorError : PySem.W.subIn K (.ref C_TooMany) (.ref C_DoorError) = some true)
    (vE_BadTurners : PySem.W.subIn K (.ref C_BadTurners) (.type "ValueError") = some true)
    (su_BadTurners_BadTurners : PySem.W.subIn K (.ref C_BadTurners) (.ref C_BadTurners) = some true)
    (su_BadTurners_BadDoor : PySem.W.subIn K (.ref C_BadTurners) (.ref C_BadDoor) = some false)
    (su_BadTurners_BadCount : PySem.W.subIn K (.ref C_BadTurners) (.ref C_BadCount) = some false)
    (su_BadTurners_BadDoors : PySem.W.subIn K (.ref C_BadTurners) (.ref C_BadDoors) = some false)
    (su_BadTurners_BadStretch : PySem.W.subIn K (.ref C_BadTurners) (.ref C_BadStretch) = some false)
    (su_BadTurners_TooMany : PySem.W.subIn K (.ref C_BadTurners) (.ref C_TooMany) = some false)
    (vE_BadDoor : PySem.W.subIn K (.ref C_BadDoor) (.type "ValueError") = some true)
    (su_BadDoor_BadTurners : PySem.W.subIn K (.ref C_BadDoor) (.ref C_BadTurners) = some false)
    (su_BadDoor_BadDoor : PySem.W.subIn K (.ref C_BadDoor) (.ref C_BadDoor) = some true)
    (su_BadDoor_BadCount : PySem.W.subIn K (.ref C_BadDoor) (.ref C_BadCount) = some false)
    (su_BadDoor_BadDoors : PySem.W.subIn K (.ref C_BadDoor) (.ref C_BadDoors) = some false)
    (su_BadDoor_BadStretch : PySem.W.subIn K (.ref C_BadDoor) (.ref C_BadStretch) = some false)
    (su_BadDoor_TooMany : PySem.W.subIn K (.ref C_BadDoor) (.ref C_TooMany) = some false)
    (vE_BadCount : PySem.W.subIn K (.ref C_BadCount) (.type "ValueError") = some true)
    (su_BadCount_BadTurners : PySem.W.subIn K (.ref C_BadCount) (.ref C_BadTurners) = some false)
    (su_BadCount_BadDoor : PySem.W.subIn K (.ref C_BadCount) (.ref C_BadDoor) = some false)
    (su_BadCount_BadCount : PySem.W.subIn K (.ref C_BadCount) (.ref C_BadCount) = some true)
    (su_BadCount_BadDoors : PySem.W.subIn K (.ref C_BadCount) (.ref C_BadDoors) = some false)
    (su_BadCount_BadStretch : PySem.W.subIn K (.ref C_BadCount) (.ref C_BadStretch) = some false)
    (su_BadCount_TooMany : PySem.W.subIn K (.ref C_BadCount) (.ref C_TooMany) = some false)
    (vE_BadDoors : PySem.W.subIn K (.ref C_BadDoors) (.type "ValueError") = some true)
    (su_BadDoors_BadTurners : PySem.W.subIn K (.ref C_BadDoors) (.ref C_BadTurners) = some false)
    (su_BadDoors_BadDoor : PySem.W.subIn K (.ref C_BadDoors) (.ref C_BadDoor) = some false)
    (su_BadDoors_BadCount : PySem.W.subIn K (.ref C_BadDoors) (.ref C_BadCount) = some false)
    (su_BadDoors_BadDoors : PySem.W.subIn K (.ref C_BadDoors) (.ref C_BadDoors) = some true)
    (su_BadDoors_BadStretch : PySem.W.subIn K (.ref C_BadDoors) (.ref C_BadStretch) = some false)
    (su_BadDoors_TooMany : PySem.W.subIn K (.ref C_BadDoors) (.ref C_TooMany) = some false)
    (vE_BadStretch : PySem.W.subIn K (.ref C_BadStretch) (.type "ValueError") = some true)
    (su_BadStretch_BadTurners : PySem.W.subIn K (.ref C_BadStretch) (.ref C_BadTurners) = some false)
    (su_BadStretch_BadDoor : PySem.W.subIn K (.ref C_BadStretch) (.ref C_BadDoor) = some false)
    (su_BadStretch_BadCount : PySem.W.subIn K (.ref C_BadStretch) (.ref C_BadCount) = some false)
    (su_BadStretch_BadDoors : PySem.W.subIn K (.ref C_BadStretch) (.ref C_BadDoors) = some false)
    (su_BadStretch_BadStretch : PySem.W.subIn K (.ref C_BadStretch) (.ref C_BadStretch) = some true)
    (su_BadStretch_TooMany : PySem.W.subIn K (.ref C_BadStretch) (.ref C_TooMany) = some false)
    (vE_TooMany : PySem.W.subIn K (.ref C_TooMany) (.type "ValueError") = some true)
    (su_TooMany_BadTurners : PySem.W.subIn K (.ref C_TooMany) (.ref C_BadTurners) = some false)
    (su_TooMany_BadDoor : PySem.W.subIn K (.ref C_TooMany) (.ref C_BadDoor) = some false)
    (su_TooMany_BadCount : PySem.W.subIn K (.ref C_TooMany) (.ref C_BadCount) = some false)
    (su_TooMany_BadDoors : PySem.W.subIn K (.ref C_TooMany) (.ref C_BadDoors) = some false)
    (su_TooMany_BadStretch : PySem.W.subIn K (.ref C_TooMany) (.ref C_BadStretch) = some false)
    (su_TooMany_TooMany : PySem.W.subIn K (.ref C_TooMany) (.ref C_TooMany) = some true)
    (a_is_number : PySem.W.nsIn K mainGlobals "is_number" = some (some (.ref f_is_number))) (l_is_number : K.lookup f_is_number = some ⟨oc_is_number, od_is_number, .func (PySem.W.fnOf "is_number" "is_number" (defArgs s_is_number) (defBody s_is_number) (defScope s_is_number) .none kV_is_number dc_is_number pm_is_number an_is_number cd_is_number ct_is_number), sl_is_number⟩) (q_is_number : PySem.W.codeIn K cd_is_number "is_number" = true) (k_is_number : PySem.W.keepIn K (.ref f_is_number) = true)
    (a_asked_turners : PySem.W.nsIn K mainGlobals "asked_turners" = some (some (.ref f_asked_turners))) (l_asked_turners : K.lookup f_asked_turners = some ⟨oc_asked_turners, od_asked_turners, .func (PySem.W.fnOf "asked_turners" "asked_turners" (defArgs s_asked_turners) (defBody s_asked_turners) (defScope s_asked_turners) .none kV_asked_turners dc_asked_turners pm_asked_turners an_asked_turners cd_asked_turners ct_asked_turners), sl_asked_turners⟩) (q_asked_turners : PySem.W.codeIn K cd_asked_turners "asked_turners" = true) (k_asked_turners : PySem.W.keepIn K (.ref f_asked_turners) = true)
    (a_asked_door : PySem.W.nsIn K mainGlobals "asked_door" = some (some (.ref f_asked_door))) (l_asked_door : K.lookup f_asked_door = some ⟨oc_asked_door, od_asked_door, .func (PySem.W.fnOf "asked_door" "asked_door" (defArgs s_asked_door) (defBody s_asked_door) (defScope s_asked_door) .none kV_asked_door dc_asked_door pm_asked_door an_asked_door cd_asked_door ct_asked_door), sl_asked_door⟩) (q_asked_door : PySem.W.codeIn K cd_asked_door "asked_door" = true) (k_asked_door : PySem.W.keepIn K (.ref f_asked_door) = true)
    (a_asked_small : PySem.W.nsIn K mainGlobals "asked_small" = some (some (.ref f_asked_small))) (l_asked_small : K.lookup f_asked_small = some ⟨oc_asked_small, od_asked_small, .func (PySem.W.fnOf "asked_small" "asked_small" (defArgs s_asked_small) (defBody s_asked_small) (defScope s_asked_small) .none kV_asked_small dc_asked_small pm_asked_small an_asked_small cd_asked_small ct_asked_small), sl_asked_small⟩) (q_asked_small : PySem.W.codeIn K cd_asked_small "asked_small" = true) (k_asked_small : PySem.W.keepIn K (.ref f_asked_small) = true)
    (a_stands_open : PySem.W.nsIn K mainGlobals "stands_open" = some (some (.ref f_stands_open))) (l_stands_open : K.lookup f_stands_open = some ⟨oc_stands_open, od_stands_open, .func (PySem.W.fnOf "stands_open" "stands_open" (defArgs s_stands_open) (defBody s_stands_open) (defScope s_stands_open) .none kV_stands_open dc_stands_open pm_stands_open an_stands_open cd_stands_open ct_stands_open), sl_stands_open⟩) (q_stands_open : PySem.W.codeIn K cd_stands_open "stands_open" = true) (k_stands_open : PySem.W.keepIn K (.ref f_stands_open) = true)
    (a_is_open : PySem.W.nsIn K mainGlobals "is_open" = some (some (.ref f_is_open))) (l_is_open : K.lookup f_is_open = some ⟨oc_is_open, od_is_open, .func (PySem.W.fnOf "is_open" "is_open" (defArgs s_is_open) (defBody s_is_open) (defScope s_is_open) .none kV_is_open dc_is_open pm_is_open an_is_open cd_is_open ct_is_open), sl_is_open⟩) (q_is_open : PySem.W.codeIn K cd_is_open "is_open" = true) (k_is_open : PySem.W.keepIn K (.ref f_is_open) = true)
    (a_open_doors : PySem.W.nsIn K mainGlobals "open_doors" = some (some (.ref f_open_doors))) (l_open_doors : K.lookup f_open_doors = some ⟨oc_open_doors, od_open_doors, .func (PySem.W.fnOf "open_doors" "open_doors" (defArgs s_open_doors) (defBody s_open_doors) (defScope s_open_doors) .none kV_open_doors dc_open_doors pm_open_doors an_open_doors cd_open_doors ct_open_doors), sl_open_doors⟩) (q_open_doors : PySem.W.codeIn K cd_open_doors "open_doors" = true) (k_open_doors : PySem.W.keepIn K (.ref f_open_doors) = true)
    (a_left_over : PySem.W.nsIn K mainGlobals "left_over" = some (some (.ref f_left_over))) (l_left_over : K.lookup f_left_over = some ⟨oc_left_over, od_left_over, .func (PySem.W.fnOf "left_over" "left_over" (defArgs s_left_over) (defBody s_left_over) (defScope s_left_over) .none kV_left_over dc_left_over pm_left_over an_left_over cd_left_over ct_left_over), sl_left_over⟩) (q_left_over : PySem.W.codeIn K cd_left_over "left_over" = true) (k_left_over : PySem.W.keepIn K (.ref f_left_over) = true)
    (a_kept : PySem.W.nsIn K mainGlobals "kept" = some (some (.ref f_kept))) (l_kept : K.lookup f_kept = some ⟨oc_kept, od_kept, .func (PySem.W.fnOf "kept" "kept" (defArgs s_kept) (defBody s_kept) (defScope s_kept) .none kV_kept dc_kept pm_kept an_kept cd_kept ct_kept), sl_kept⟩) (q_kept : PySem.W.codeIn K cd_kept "kept" = true) (k_kept : PySem.W.keepIn K (.ref f_kept) = true)
    (a_Same_shows : PySem.W.findIn K (.ref C_Same) "shows" = some (some (.ref f_Same_shows))) (i_Same_shows : PySem.W.isFn K (.ref f_Same_shows) = true) (l_Same_shows : K.lookup f_Same_shows = some ⟨oc_Same_shows, od_Same_shows, .func (PySem.W.fnOf "shows" "Same.shows" (defArgs s_Same_shows) (defBody s_Same_shows) (defScope s_Same_shows) .none kV_Same_shows dc_Same_shows pm_Same_shows an_Same_shows cd_Same_shows ct_Same_shows), sl_Same_shows⟩) (q_Same_shows : PySem.W.codeIn K cd_Same_shows "Same.shows" = true) (k_Same_shows : PySem.W.keepIn K (.ref f_Same_shows) = true)
    (a_Unlike___init__ : PySem.W.findIn K (.ref C_Unlike) "__init__" = some (some (.ref f_Unlike___init__))) (i_Unlike___init__ : PySem.W.isFn K (.ref f_Unlike___init__) = true) (l_Unlike___init__ : K.lookup f_Unlike___init__ = some ⟨oc_Unlike___init__, od_Unlike___init__, .func (PySem.W.fnOf "__init__" "Unlike.__init__" (defArgs s_Unlike___init__) (defBody s_Unlike___init__) (defScope s_Unlike___init__) .none kV_Unlike___init__ dc_Unlike___init__ pm_Unlike___init__ an_Unlike___init__ cd_Unlike___init__ ct_Unlike___init__), sl_Unlike___init__⟩) (q_Unlike___init__ : PySem.W.codeIn K cd_Unlike___init__ "Unlike.__init__" = true) (k_Unlike___init__ : PySem.W.keepIn K (.ref f_Unlike___init__) = true)
    (a_Unlike_shows : PySem.W.findIn K (.ref C_Unlike) "shows" = some (some (.ref f_Unlike_shows))) (i_Unlike_shows : PySem.W.isFn K (.ref f_Unlike_shows) = true) (l_Unlike_shows : K.lookup f_Unlike_shows = some ⟨oc_Unlike_shows, od_Unlike_shows, .func (PySem.W.fnOf "shows" "Unlike.shows" (defArgs s_Unlike_shows) (defBody s_Unlike_shows) (defScope s_Unlike_shows) .none kV_Unlike_shows dc_Unlike_shows pm_Unlike_shows an_Unlike_shows cd_Unlike_shows ct_Unlike_shows), sl_Unlike_shows⟩) (q_Unlike_shows : PySem.W.codeIn K cd_Unlike_shows "Unlike.shows" = true) (k_Unlike_shows : PySem.W.keepIn K (.ref f_Unlike_shows) = true)
    (a_turners_for : PySem.W.nsIn K mainGlobals "turners_for" = some (some (.ref f_turners_for))) (l_turners_for : K.lookup f_turners_for = some ⟨oc_turners_for, od_turners_for, .func (PySem.W.fnOf "turners_for" "turners_for" (defArgs s_turners_for) (defBody s_turners_for) (defScope s_turners_for) .none kV_turners_for dc_turners_for pm_turners_for an_turners_for cd_turners_for ct_turners_for), sl_turners_for⟩) (q_turners_for : PySem.W.codeIn K cd_turners_for "turners_for" = true) (k_turners_for : PySem.W.keepIn K (.ref f_turners_for) = true)
    (a_common : PySem.W.nsIn K mainGlobals "common" = some (some (.ref f_common))) (l_common : K.lookup f_common = some ⟨oc_common, od_common, .func (PySem.W.fnOf "common" "common" (defArgs s_common) (defBody s_common) (defScope s_common) .none kV_common dc_common pm_common an_common cd_common ct_common), sl_common⟩) (q_common : PySem.W.codeIn K cd_common "common" = true) (k_common : PySem.W.keepIn K (.ref f_common) = true)
    (a_both : PySem.W.nsIn K mainGlobals "both" = some (some (.ref f_both))) (l_both : K.lookup f_both = some ⟨oc_both, od_both, .func (PySem.W.fnOf "both" "both" (defArgs s_both) (defBody s_both) (defScope s_both) .none kV_both dc_both pm_both an_both cd_both ct_both), sl_both⟩) (q_both : PySem.W.codeIn K cd_both "both" = true) (k_both : PySem.W.keepIn K (.ref f_both) = true)
    (a_asked_count : PySem.W.nsIn K mainGlobals "asked_count" = some (some (.ref f_asked_count))) (l_asked_count : K.lookup f_asked_count = some ⟨oc_asked_count, od_asked_count, .func (PySem.W.fnOf "asked_count" "asked_count" (defArgs s_asked_count) (defBody s_asked_count) (defScope s_asked_count) .none kV_asked_count dc_asked_count pm_asked_count an_asked_count cd_asked_count ct_asked_count), sl_asked_count⟩) (q_asked_count : PySem.W.codeIn K cd_asked_count "asked_count" = true) (k_asked_count : PySem.W.keepIn K (.ref f_asked_count) = true)
    (a_how_many : PySem.W.nsIn K mainGlobals "how_many" = some (some (.ref f_how_many))) (l_how_many : K.lookup f_how_many = some ⟨oc_how_many, od_how_many, .func (PySem.W.fnOf "how_many" "how_many" (defArgs s_how_many) (defBody s_how_many) (defScope s_how_many) .none kV_how_many dc_how_many pm_how_many an_how_many cd_how_many ct_how_many), sl_how_many⟩) (q_how_many : PySem.W.codeIn K cd_how_many "how_many" = true) (k_how_many : PySem.W.keepIn K (.ref f_how_many) = true)
    (a_round_of : PySem.W.nsIn K mainGlobals "round_of" = some (some (.ref f_round_of))) (l_round_of : K.lookup f_round_of = some ⟨oc_round_of, od_round_of, .func (PySem.W.fnOf "round_of" "round_of" (defArgs s_round_of) (defBody s_round_of) (defScope s_round_of) .none kV_round_of dc_round_of pm_round_of an_round_of cd_round_of ct_round_of), sl_round_of⟩) (q_round_of : PySem.W.codeIn K cd_round_of "round_of" = true) (k_round_of : PySem.W.keepIn K (.ref f_round_of) = true)
    (a_root : PySem.W.nsIn K mainGlobals "root" = some (some (.ref f_root))) (l_root : K.lookup f_root = some ⟨oc_root, od_root, .func (PySem.W.fnOf "root" "root" (defArgs s_root) (defBody s_root) (defScope s_root) .none kV_root dc_root pm_root an_root cd_root ct_root), sl_root⟩) (q_root : PySem.W.codeIn K cd_root "root" = true) (k_root : PySem.W.keepIn K (.ref f_root) = true)
    (a_by_all : PySem.W.nsIn K mainGlobals "by_all" = some (some (.ref f_by_all))) (l_by_all : K.lookup f_by_all = some ⟨oc_by_all, od_by_all, .func (PySem.W.fnOf "by_all" "by_all" (defArgs s_by_all) (defBody s_by_all) (defScope s_by_all) .none kV_by_all dc_by_all pm_by_all an_by_all cd_by_all ct_by_all), sl_by_all⟩) (q_by_all : PySem.W.codeIn K cd_by_all "by_all" = true) (k_by_all : PySem.W.keepIn K (.ref f_by_all) = true)
    (a_by_stretch : PySem.W.nsIn K mainGlobals "by_stretch" = some (some (.ref f_by_stretch))) (l_by_stretch : K.lookup f_by_stretch = some ⟨oc_by_stretch, od_by_stretch, .func (PySem.W.fnOf "by_stretch" "by_stretch" (defArgs s_by_stretch) (defBody s_by_stretch) (defScope s_by_stretch) .none kV_by_stretch dc_by_stretch pm_by_stretch an_by_stretch cd_by_stretch ct_by_stretch), sl_by_stretch⟩) (q_by_stretch : PySem.W.codeIn K cd_by_stretch "by_stretch" = true) (k_by_stretch : PySem.W.keepIn K (.ref f_by_stretch) = true)
    (a_compared : PySem.W.nsIn K mainGlobals "compared" = some (some (.ref f_compared))) (l_compared : K.lookup f_compared = some ⟨oc_compared, od_compared, .func (PySem.W.fnOf "compared" "compared" (defArgs s_compared) (defBody s_compared) (defScope s_compared) .none kV_compared dc_compared pm_compared an_compared cd_compared ct_compared), sl_compared⟩) (q_compared : PySem.W.codeIn K cd_compared "compared" = true) (k_compared : PySem.W.keepIn K (.ref f_compared) = true)
    (a__law_kinds : PySem.W.nsIn K mainGlobals "_law_kinds" = some (some (.ref f__law_kinds))) (l__law_kinds : K.lookup f__law_kinds = some ⟨oc__law_kinds, od__law_kinds, .func (PySem.W.fnOf "_law_kinds" "_law_kinds" (defArgs s__law_kinds) (defBody s__law_kinds) (defScope s__law_kinds) .none kV__law_kinds dc__law_kinds pm__law_kinds an__law_kinds cd__law_kinds ct__law_kinds), sl__law_kinds⟩) (q__law_kinds : PySem.W.codeIn K cd__law_kinds "_law_kinds" = true) (k__law_kinds : PySem.W.keepIn K (.ref f__law_kinds) = true)
    (a__law_refused : PySem.W.nsIn K mainGlobals "_law_refused" = some (some (.ref f__law_refused))) (l__law_refused : K.lookup f__law_refused = some ⟨oc__law_refused, od__law_refused, .func (PySem.W.fnOf "_law_refused" "_law_refused" (defArgs s__law_refused) (defBody s__law_refused) (defScope s__law_refused) .none kV__law_refused dc__law_refused pm__law_refused an__law_refused cd__law_refused ct__law_refused), sl__law_refused⟩) (q__law_refused : PySem.W.codeIn K cd__law_refused "_law_refused" = true) (k__law_refused : PySem.W.keepIn K (.ref f__law_refused) = true)
    (a__law_plain : PySem.W.nsIn K mainGlobals "_law_plain" = some (some (.ref f__law_plain))) (l__law_plain : K.lookup f__law_plain = some ⟨oc__law_plain, od__law_plain, .func (PySem.W.fnOf "_law_plain" "_law_plain" (defArgs s__law_plain) (defBody s__law_plain) (defScope s__law_plain) .none kV__law_plain dc__law_plain pm__law_plain an__law_plain cd__law_plain ct__law_plain), sl__law_plain⟩) (q__law_plain : PySem.W.codeIn K cd__law_plain "_law_plain" = true) (k__law_plain : PySem.W.keepIn K (.ref f__law_plain) = true)
    (a__law_truths : PySem.W.nsIn K mainGlobals "_law_truths" = some (some (.ref f__law_truths))) (l__law_truths : K.lookup f__law_truths = some ⟨oc__law_truths, od__law_truths, .func (PySem.W.fnOf "_law_truths" "_law_truths" (defArgs s__law_truths) (defBody s__law_truths) (defScope s__law_truths) .none kV__law_truths dc__law_truths pm__law_truths an__law_truths cd__law_truths ct__law_truths), sl__law_truths⟩) (q__law_truths : PySem.W.codeIn K cd__law_truths "_law_truths" = true) (k__law_truths : PySem.W.keepIn K (.ref f__law_truths) = true)
    (a__law_known_right : PySem.W.nsIn K mainGlobals "_law_known_right" = some (some (.ref f__law_known_right))) (l__law_known_right : K.lookup f__law_known_right = some ⟨oc__law_known_right, od__law_known_right, .func (PySem.W.fnOf "_law_known_right" "_law_known_right" (defArgs s__law_known_right) (defBody s__law_known_right) (defScope s__law_known_right) .none kV__law_known_right dc__law_known_right pm__law_known_right an__law_known_right (.ref c__law_known_right) ct__law_known_right), sl__law_known_right⟩) (q__law_known_right : PySem.W.codeIn K (.ref c__law_known_right) "_law_known_right" = true) (k__law_known_right : PySem.W.keepIn K (.ref f__law_known_right) = true)
    (lc__law_known_right : K.lookup c__law_known_right = some ⟨oc2__law_known_right, od2__law_known_right, .fields fv__law_known_right, sl2__law_known_right⟩) (lp__law_known_right : fv__law_known_right[11]? = some (.ref Pt__law_known_right)) (np__law_known_right : (K.lookup Pt__law_known_right).isNone = true)
    (a__law_far_right : PySem.W.nsIn K mainGlobals "_law_far_right" = some (some (.ref f__law_far_right))) (l__law_far_right : K.lookup f__law_far_right = some ⟨oc__law_far_right, od__law_far_right, .func (PySem.W.fnOf "_law_far_right" "_law_far_right" (defArgs s__law_far_right) (defBody s__law_far_right) (defScope s__law_far_right) .none kV__law_far_right dc__law_far_right pm__law_far_right an__law_far_right (.ref c__law_far_right) ct__law_far_right), sl__law_far_right⟩) (q__law_far_right : PySem.W.codeIn K (.ref c__law_far_right) "_law_far_right" = true) (k__law_far_right : PySem.W.keepIn K (.ref f__law_far_right) = true)
    (lc__law_far_right : K.lookup c__law_far_right = some ⟨oc2__law_far_right, od2__law_far_right, .fields fv__law_far_right, sl2__law_far_right⟩) (lp__law_far_right : fv__law_far_right[11]? = some (.ref Pt__law_far_right)) (np__law_far_right : (K.lookup Pt__law_far_right).isNone = true)
    (a__law_bad_right : PySem.W.nsIn K mainGlobals "_law_bad_right" = some (some (.ref f__law_bad_right))) (l__law_bad_right : K.lookup f__law_bad_right = some ⟨oc__law_bad_right, od__law_bad_right, .func (PySem.W.fnOf "_law_bad_right" "_law_bad_right" (defArgs s__law_bad_right) (defBody s__law_bad_right) (defScope s__law_bad_right) .none kV__law_bad_right dc__law_bad_right pm__law_bad_right an__law_bad_right (.ref c__law_bad_right) ct__law_bad_right), sl__law_bad_right⟩) (q__law_bad_right : PySem.W.codeIn K (.ref c__law_bad_right) "_law_bad_right" = true) (k__law_bad_right : PySem.W.keepIn K (.ref f__law_bad_right) = true)
    (lc__law_bad_right : K.lookup c__law_bad_right = some ⟨oc2__law_bad_right, od2__law_bad_right, .fields fv__law_bad_right, sl2__law_bad_right⟩) (lp__law_bad_right : fv__law_bad_right[11]? = some (.ref Pt__law_bad_right)) (np__law_bad_right : (K.lookup Pt__law_bad_right).isNone = true)
    (a_law : PySem.W.nsIn K mainGlobals "law" = some (some (.ref f_law))) (l_law : K.lookup f_law = some ⟨oc_law, od_law, .func (PySem.W.fnOf "law" "law" (defArgs s_law) (defBody s_law) (defScope s_law) .none kV_law dc_law pm_law an_law cd_law ct_law), sl_law⟩) (q_law : PySem.W.codeIn K cd_law "law" = true) (k_law : PySem.W.keepIn K (.ref f_law) = true)
    (h_MOST : PySem.W.nsIn K mainGlobals "MOST" = some (some (.int 40 t_MOST)))
    (h_SMALL : PySem.W.nsIn K mainGlobals "SMALL" = some (some (.int 1000 t_SMALL)))
    (h_FEW : PySem.W.nsIn K mainGlobals "FEW" = some (some (.int 12 t_FEW)))
    (h_GREATEST : PySem.W.nsIn K mainGlobals "GREATEST" = some (some (.int 1000000000 t_GREATEST)))
    (z_isinstance : PySem.W.nsIn K mainGlobals "isinstance" = some none)
    (z_len : PySem.W.nsIn K mainGlobals "len" = some none)
    (z_all : PySem.W.nsIn K mainGlobals "all" = some none)
    (z_any : PySem.W.nsIn K mainGlobals "any" = some none)
    (z_sum : PySem.W.nsIn K mainGlobals "sum" = some none)
    (z_abs : PySem.W.nsIn K mainGlobals "abs" = some none)
    (z_max : PySem.W.nsIn K mainGlobals "max" = some none)
    (z_min : PySem.W.nsIn K mainGlobals "min" = some none)
    (z_range : PySem.W.nsIn K mainGlobals "range" = some none)
    (z_sorted : PySem.W.nsIn K mainGlobals "sorted" = some none)
    (z_enumerate : PySem.W.nsIn K mainGlobals "enumerate" = some none)
    (z_int : PySem.W.nsIn K mainGlobals "int" = some none)
    (z_bool : PySem.W.nsIn K mainGlobals "bool" = some none)
    (z_list : PySem.W.nsIn K mainGlobals "list" = some none)
    (z_set : PySem.W.nsIn K mainGlobals "set" = some none)
    (z_str : PySem.W.nsIn K mainGlobals "str" = some none)
    (z_tuple : PySem.W.nsIn K mainGlobals "tuple" = some none)
    (z_ValueError : PySem.W.nsIn K mainGlobals "ValueError" = some none)
    (nq__law_known_right__law_far_right : Pt__law_known_right ≠ Pt__law_far_right)
    (nq__law_known_right__law_bad_right : Pt__law_known_right ≠ Pt__law_bad_right)
    (nq__law_far_right__law_bad_right : Pt__law_far_right ≠ Pt__law_bad_right)
    : LamX.LawAtS l w K CX0 8 63 "_law_script" mg fa h := by
  have e := hfa.symm.trans (PySem.W.mg_of X G a_law)
  cases e
  have ki_Same_Answer := kit_by ic_Answer ty_Answer su_Same_Answer su_Same_Same
  have ki_Same_Same := kit_by ic_Same ty_Same su_Same_Same su_Same_Same
  have ki_Same_Unlike := kit_by ic_Unlike ty_Unlike su_Same_Unlike su_Same_Same
  have ki_Unlike_Answer := kit_by ic_Answer ty_Answer su_Unlike_Answer su_Unlike_Unlike
  have ki_Unlike_Same := kit_by ic_Same ty_Same su_Unlike_Same su_Unlike_Unlike
  have ki_Unlike_Unlike := kit_by ic_Unlike ty_Unlike su_Unlike_Unlike su_Unlike_Unlike
  have O : Own K mg C_Answer C_Same C_Unlike := ⟨PySem.W.mg_of X G aC_Answer, PySem.W.mg_of X G aC_Same, PySem.W.mg_of X G aC_Unlike, ⟨pg_Same, hd_Same, po_Same, sa_Same⟩, ⟨pg_Unlike, hd_Unlike, po_Unlike, sa_Unlike⟩, ⟨mk_Same, in_Same, tp_Same, kc_Same⟩, no_Unlike, ac_Same, ac_Unlike, hn_O, htk_O, tp_Unlike, ki_Same_Answer, ki_Same_Same, ki_Same_Unlike, ki_Unlike_Answer, ki_Unlike_Same, ki_Unlike_Unlike⟩
  have gD : mg "DoorError" = some (.ref C_DoorError) := PySem.W.mg_of X G aC_DoorError
  have E_BadTurners : ErrC K mg "BadTurners" C_BadTurners C_DoorError := ⟨PySem.W.mg_of X G aC_BadTurners, xp_BadTurners, kc_BadTurners, ty_BadTurners, ic_BadTurners, ⟨ga_BadTurners, gg_BadTurners, sb_BadTurners, hd_BadTurners, ac_BadTurners, hn_O, htk_O, tp_BadTurners⟩, su_BadTurners_DoorError⟩
  have M_BadTurners := E_BadTurners.met sb_DoorError hd_DoorError ty_DoorError
  have E_BadDoor : ErrC K mg "BadDoor" C_BadDoor C_DoorError := ⟨PySem.W.mg_of X G aC_BadDoor, xp_BadDoor, kc_BadDoor, ty_BadDoor, ic_BadDoor, ⟨ga_BadDoor, gg_BadDoor, sb_BadDoor, hd_BadDoor, ac_BadDoor, hn_O, htk_O, tp_BadDoor⟩, su_BadDoor_DoorError⟩
  have M_BadDoor := E_BadDoor.met sb_DoorError hd_DoorError ty_DoorError
  have E_BadCount : ErrC K mg "BadCount" C_BadCount C_DoorError := ⟨PySem.W.mg_of X G aC_BadCount, xp_BadCount, kc_BadCount, ty_BadCount, ic_BadCount, ⟨ga_BadCount, gg_BadCount, sb_BadCount, hd_BadCount, ac_BadCount, hn_O, htk_O, tp_BadCount⟩, su_BadCount_DoorError⟩
  have M_BadCount := E_BadCount.met sb_DoorError hd_DoorError ty_DoorError
  have E_BadDoors : ErrC K mg "BadDoors" C_BadDoors C_DoorError := ⟨PySem.W.mg_of X G aC_BadDoors, xp_BadDoors, kc_BadDoors, ty_BadDoors, ic_BadDoors, ⟨ga_BadDoors, gg_BadDoors, sb_BadDoors, hd_BadDoors, ac_BadDoors, hn_O, htk_O, tp_BadDoors⟩, su_BadDoors_DoorError⟩
  have M_BadDoors := E_BadDoors.met sb_DoorError hd_DoorError ty_DoorError
  have E_BadStretch : ErrC K mg "BadStretch" C_BadStretch C_DoorError := ⟨PySem.W.mg_of X G aC_BadStretch, xp_BadStretch, kc_BadStretch, ty_BadStretch, ic_BadStretch, ⟨ga_BadStretch, gg_BadStretch, sb_BadStretch, hd_BadStretch, ac_BadStretch, hn_O, htk_O, tp_BadStretch⟩, su_BadStretch_DoorError⟩
  have M_BadStretch := E_BadStretch.met sb_DoorError hd_DoorError ty_DoorError
  have E_TooMany : ErrC K mg "TooMany" C_TooMany C_DoorError := ⟨PySem.W.mg_of X G aC_TooMany, xp_TooMany, kc_TooMany, ty_TooMany, ic_TooMany, ⟨ga_TooMany, gg_TooMany, sb_TooMany, hd_TooMany, ac_TooMany, hn_O, htk_O, tp_TooMany⟩, su_TooMany_DoorError⟩
  have M_TooMany := E_TooMany.met sb_DoorError hd_DoorError ty_DoorError
  have KD : Kinds K mg C_DoorError (six C_BadTurners C_BadDoor C_BadCount C_BadDoors C_BadStretch C_TooMany) := ⟨PySem.W.mg_of X G aC_BadTurners, PySem.W.mg_of X G aC_BadDoor, PySem.W.mg_of X G aC_BadCount, PySem.W.mg_of X G aC_BadDoors, PySem.W.mg_of X G aC_BadStretch, PySem.W.mg_of X G aC_TooMany, gD, by_six E_BadTurners.eC E_BadDoor.eC E_BadCount.eC E_BadDoors.eC E_BadStretch.eC E_TooMany.eC, by_six (by_six (kit_by ic_BadTurners ty_BadTurners su_BadTurners_BadTurners su_BadTurners_BadTurners) (kit_by ic_BadDoor ty_BadDoor su_BadTurners_BadDoor su_BadTurners_BadTurners) (kit_by ic_BadCount ty_BadCount su_BadTurners_BadCount su_BadTurners_BadTurners) (kit_by ic_BadDoors ty_BadDoors su_BadTurners_BadDoors su_BadTurners_BadTurners) (kit_by ic_BadStretch ty_BadStretch su_BadTurners_BadStretch su_BadTurners_BadTurners) (kit_by ic_TooMany ty_TooMany su_BadTurners_TooMany su_BadTurners_BadTurners)) (by_six (kit_by ic_BadTurners ty_BadTurners su_BadDoor_BadTurners su_BadDoor_BadDoor) (kit_by ic_BadDoor ty_BadDoor su_BadDoor_BadDoor su_BadDoor_BadDoor) (kit_by ic_BadCount ty_BadCount su_BadDoor_BadCount su_BadDoor_BadDoor) (kit_by ic_BadDoors ty_BadDoors su_BadDoor_BadDoors su_BadDoor_BadDoor) (kit_by ic_BadStretch ty_BadStretch su_BadDoor_BadStretch su_BadDoor_BadDoor) (kit_by ic_TooMany ty_TooMany su_BadDoor_TooMany su_BadDoor_BadDoor)) (by_six (kit_by ic_BadTurners ty_BadTurners su_BadCount_BadTurners su_BadCount_BadCount) (kit_by ic_BadDoor ty_BadDoor su_BadCount_BadDoor su_BadCount_BadCount) (kit_by ic_BadCount ty_BadCount su_BadCount_BadCount su_BadCount_BadCount) (kit_by ic_BadDoors ty_BadDoors su_BadCount_BadDoors su_BadCount_BadCount) (kit_by ic_BadStretch ty_BadStretch su_BadCount_BadStretch su_BadCount_BadCount) (kit_by ic_TooMany ty_TooMany su_BadCount_TooMany su_BadCount_BadCount)) (by_six (kit_by ic_BadTurners ty_BadTurners su_BadDoors_BadTurners su_BadDoors_BadDoors) (kit_by ic_BadDoor ty_BadDoor su_BadDoors_BadDoor su_BadDoors_BadDoors) (kit_by ic_BadCount ty_BadCount su_BadDoors_BadCount su_BadDoors_BadDoors) (kit_by ic_BadDoors ty_BadDoors su_BadDoors_BadDoors su_BadDoors_BadDoors) (kit_by ic_BadStretch ty_BadStretch su_BadDoors_BadStretch su_BadDoors_BadDoors) (kit_by ic_TooMany ty_TooMany su_BadDoors_TooMany su_BadDoors_BadDoors)) (by_six (kit_by ic_BadTurners ty_BadTurners su_BadStretch_BadTurners su_BadStretch_BadStretch) (kit_by ic_BadDoor ty_BadDoor su_BadStretch_BadDoor su_BadStretch_BadStretch) (kit_by ic_BadCount ty_BadCount su_BadStretch_BadCount su_BadStretch_BadStretch) (kit_by ic_BadDoors ty_BadDoors su_BadStretch_BadDoors su_BadStretch_BadStretch) (kit_by ic_BadStretch ty_BadStretch su_BadStretch_BadStretch su_BadStretch_BadStretch) (kit_by ic_TooMany ty_TooMany su_BadStretch_TooMany su_BadStretch_BadStretch)) (by_six (kit_by ic_BadTurners ty_BadTurners su_TooMany_BadTurners su_TooMany_TooMany) (kit_by ic_BadDoor ty_BadDoor su_TooMany_BadDoor su_TooMany_TooMany) (kit_by ic_BadCount ty_BadCount su_TooMany_BadCount su_TooMany_TooMany) (kit_by ic_BadDoors ty_BadDoors su_TooMany_BadDoors su_TooMany_TooMany) (kit_by ic_BadStretch ty_BadStretch su_TooMany_BadStretch su_TooMany_TooMany) (kit_by ic_TooMany ty_TooMany su_TooMany_TooMany su_TooMany_TooMany)), by_six (kit_ve vE_BadTurners) (kit_ve vE_BadDoor) (kit_ve vE_BadCount) (kit_ve vE_BadDoors) (kit_ve vE_BadStretch) (kit_ve vE_TooMany), by_six M_BadTurners M_BadDoor M_BadCount M_BadDoors M_BadStretch M_TooMany⟩
  have D_is_number : Df K mg "is_number" s_is_number ["thing"] := df_mk X G a_is_number l_is_number q_is_number k_is_number (fun _ _ _ _ _ _ us hl => match us, hl with | [_], _ => rfl)
  have D_asked_turners : Df K mg "asked_turners" s_asked_turners ["turners"] := df_mk X G a_asked_turners l_asked_turners q_asked_turners k_asked_turners (fun _ _ _ _ _ _ us hl => match us, hl with | [_], _ => rfl)
  have D_asked_door : Df K mg "asked_door" s_asked_door ["door"] := df_mk X G a_asked_door l_asked_door q_asked_door k_asked_door (fun _ _ _ _ _ _ us hl => match us, hl with | [_], _ => rfl)
  have D_asked_small : Df K mg "asked_small" s_asked_small ["many"] := df_mk X G a_asked_small l_asked_small q_asked_small k_asked_small (fun _ _ _ _ _ _ us hl => match us, hl with | [_], _ => rfl)
  have D_stands_open : Df K mg "stands_open" s_stands_open ["turners", "door"] := df_mk X G a_stands_open l_stands_open q_stands_open k_stands_open (fun _ _ _ _ _ _ us hl => match us, hl with | [_, _], _ => rfl)
  have D_is_open : Df K mg "is_open" s_is_open ["turners", "door"] := df_mk X G a_is_open l_is_open q_is_open k_is_open (fun _ _ _ _ _ _ us hl => match us, hl with | [_, _], _ => rfl)
  have D_open_doors : Df K mg "open_doors" s_open_doors ["turners", "many"] := df_mk X G a_open_doors l_open_doors q_open_doors k_open_doors (fun _ _ _ _ _ _ us hl => match us, hl with | [_, _], _ => rfl)
  have D_left_over : Df K mg "left_over" s_left_over ["turners"] := df_mk X G a_left_over l_left_over q_left_over k_left_over (fun _ _ _ _ _ _ us hl => match us, hl with | [_], _ => rfl)
  have D_kept : Df K mg "kept" s_kept ["turners"] := df_mk X G a_kept l_kept q_kept k_kept (fun _ _ _ _ _ _ us hl => match us, hl with | [_], _ => rfl)
  have D_Same_shows : DfM K C_Same "shows" "Same.shows" s_Same_shows ["self", "one", "other"] := ⟨f_Same_shows, _, fun_mk (st := s_Same_shows) l_Same_shows q_Same_shows k_Same_shows, ⟨pg_Same, hd_Same, po_Same, sa_Same⟩, ⟨a_Same_shows, i_Same_shows, k_Same_shows⟩, (fun_mk (st := s_Same_shows) l_Same_shows q_Same_shows k_Same_shows).binds (ps := ["self", "one", "other"]) (fun _ _ _ _ _ _ us hl => match us, hl with | [_, _, _], _ => rfl)⟩
  have D_Unlike___init__ : DfI K mg "Unlike" C_Unlike "Unlike.__init__" s_Unlike___init__ ["self", "door"] := ⟨f_Unlike___init__, _, fun_mk (st := s_Unlike___init__) l_Unlike___init__ q_Unlike___init__ k_Unlike___init__, ⟨mk_Unlike, a_Unlike___init__, i_Unlike___init__, kc_Unlike⟩, PySem.W.mg_of X G aC_Unlike, (fun_mk (st := s_Unlike___init__) l_Unlike___init__ q_Unlike___init__ k_Unlike___init__).binds (ps := ["self", "door"]) (fun _ _ _ _ _ _ us hl => match us, hl with | [_, _], _ => rfl)⟩
  have D_Unlike_shows : DfM K C_Unlike "shows" "Unlike.shows" s_Unlike_shows ["self", "one", "other"] := ⟨f_Unlike_shows, _, fun_mk (st := s_Unlike_shows) l_Unlike_shows q_Unlike_shows k_Unlike_shows, ⟨pg_Unlike, hd_Unlike, po_Unlike, sa_Unlike⟩, ⟨a_Unlike_shows, i_Unlike_shows, k_Unlike_shows⟩, (fun_mk (st := s_Unlike_shows) l_Unlike_shows q_Unlike_shows k_Unlike_shows).binds (ps := ["self", "one", "other"]) (fun _ _ _ _ _ _ us hl => match us, hl with | [_, _, _], _ => rfl)⟩
  have D_turners_for : Df K mg "turners_for" s_turners_for ["many", "doors"] := df_mk X G a_turners_for l_turners_for q_turners_for k_turners_for (fun _ _ _ _ _ _ us hl => match us, hl with | [_, _], _ => rfl)
  have D_common : Df K mg "common" s_common ["one", "other"] := df_mk X G a_common l_common q_common k_common (fun _ _ _ _ _ _ us hl => match us, hl with | [_, _], _ => rfl)
  have D_both : Df K mg "both" s_both ["one", "other"] := df_mk X G a_both l_both q_both k_both (fun _ _ _ _ _ _ us hl => match us, hl with | [_, _], _ => rfl)
  have D_asked_count : Df K mg "asked_count" s_asked_count ["many"] := df_mk X G a_asked_count l_asked_count q_asked_count k_asked_count (fun _ _ _ _ _ _ us hl => match us, hl with | [_], _ => rfl)
  have D_how_many : Df K mg "how_many" s_how_many ["turners", "many"] := df_mk X G a_how_many l_how_many q_how_many k_how_many (fun _ _ _ _ _ _ us hl => match us, hl with | [_, _], _ => rfl)
  have D_round_of : Df K mg "round_of" s_round_of ["turners"] := df_mk X G a_round_of l_round_of q_round_of k_round_of (fun _ _ _ _ _ _ us hl => match us, hl with | [_], _ => rfl)
  have D_root : Df K mg "root" s_root ["number"] := df_mk X G a_root l_root q_root k_root (fun _ _ _ _ _ _ us hl => match us, hl with | [_], _ => rfl)
  have D_by_all : Df K mg "by_all" s_by_all ["many"] := df_mk X G a_by_all l_by_all q_by_all k_by_all (fun _ _ _ _ _ _ us hl => match us, hl with | [_], _ => rfl)
  have D_by_stretch : Df K mg "by_stretch" s_by_stretch ["first", "last", "door"] := df_mk X G a_by_stretch l_by_stretch q_by_stretch k_by_stretch (fun _ _ _ _ _ _ us hl => match us, hl with | [_, _, _], _ => rfl)
  have D_compared : Df K mg "compared" s_compared ["one", "other"] := df_mk X G a_compared l_compared q_compared k_compared (fun _ _ _ _ _ _ us hl => match us, hl with | [_, _], _ => rfl)
  have D__law_kinds : Df K mg "_law_kinds" s__law_kinds ["_law_error"] := df_mk X G a__law_kinds l__law_kinds q__law_kinds k__law_kinds (fun _ _ _ _ _ _ us hl => match us, hl with | [_], _ => rfl)
  have D__law_refused : Df K mg "_law_refused" s__law_refused ["_law_ask", "_law_thing", "_law_due"] := df_mk X G a__law_refused l__law_refused q__law_refused k__law_refused (fun _ _ _ _ _ _ us hl => match us, hl with | [_, _, _], _ => rfl)
  have D__law_plain : Df K mg "_law_plain" s__law_plain ["_law_thing"] := df_mk X G a__law_plain l__law_plain q__law_plain k__law_plain (fun _ _ _ _ _ _ us hl => match us, hl with | [_], _ => rfl)
  have D__law_truths : Df K mg "_law_truths" s__law_truths ["_law_things"] := df_mk X G a__law_truths l__law_truths q__law_truths k__law_truths (fun _ _ _ _ _ _ us hl => match us, hl with | [_], _ => rfl)
  have tb__law_known_right := own "_law_known_right" (by simp) _ _ (tab_by a__law_known_right l__law_known_right rfl lc__law_known_right lp__law_known_right)
  have D__law_known_right : DfC K mg "_law_known_right" s__law_known_right ["_law_many"] c__law_known_right := dfc_mk X G a__law_known_right l__law_known_right q__law_known_right k__law_known_right (fun _ _ _ _ _ _ us hl => match us, hl with | [_], _ => rfl)
  have tb__law_far_right := own "_law_far_right" (by simp) _ _ (tab_by a__law_far_right l__law_far_right rfl lc__law_far_right lp__law_far_right)
  have D__law_far_right : DfC K mg "_law_far_right" s__law_far_right ["_law_far"] c__law_far_right := dfc_mk X G a__law_far_right l__law_far_right q__law_far_right k__law_far_right (fun _ _ _ _ _ _ us hl => match us, hl with | [_], _ => rfl)
  have tb__law_bad_right := own "_law_bad_right" (by simp) _ _ (tab_by a__law_bad_right l__law_bad_right rfl lc__law_bad_right lp__law_bad_right)
  have D__law_bad_right : DfC K mg "_law_bad_right" s__law_bad_right ["_law_whole"] c__law_bad_right := dfc_mk X G a__law_bad_right l__law_bad_right q__law_bad_right k__law_bad_right (fun _ _ _ _ _ _ us hl => match us, hl with | [_], _ => rfl)
  have g_MOST : ∃ t, mg "MOST" = some (.int 40 t) := ⟨_, PySem.W.mg_of X G h_MOST⟩
  have g_SMALL : ∃ t, mg "SMALL" = some (.int 1000 t) := ⟨_, PySem.W.mg_of X G h_SMALL⟩
  have g_FEW : ∃ t, mg "FEW" = some (.int 12 t) := ⟨_, PySem.W.mg_of X G h_FEW⟩
  have g_GREATEST : ∃ t, mg "GREATEST" = some (.int 1000000000 t) := ⟨_, PySem.W.mg_of X G h_GREATEST⟩
  have B : Blt mg := ⟨PySem.W.mg_none_of X G z_isinstance, PySem.W.mg_none_of X G z_len, PySem.W.mg_none_of X G z_all, PySem.W.mg_none_of X G z_any, PySem.W.mg_none_of X G z_sum, PySem.W.mg_none_of X G z_abs, PySem.W.mg_none_of X G z_max, PySem.W.mg_none_of X G z_min, PySem.W.mg_none_of X G z_range, PySem.W.mg_none_of X G z_sorted, PySem.W.mg_none_of X G z_enumerate, PySem.W.mg_none_of X G z_int, PySem.W.mg_none_of X G z_bool, PySem.W.mg_none_of X G z_list, PySem.W.mg_none_of X G z_set, PySem.W.mg_none_of X G z_str, PySem.W.mg_none_of X G z_tuple, PySem.W.mg_none_of X G z_ValueError⟩
  have F_law := fun_mk (st := s_law) l_law q_law k_law
  refine ⟨PySem.W.fnOf "law" "law" (defArgs s_law) (defBody s_law) (defScope s_law) .none kV_law dc_law pm_law an_law cd_law ct_law, [(c__law_known_right, Pt__law_known_right), (c__law_far_right, Pt__law_far_right), (c__law_bad_right, Pt__law_bad_right)], spLaw K [(Pt__law_known_right, lamQ "_law_known_right"), (Pt__law_far_right, lamQ "_law_far_right"), (Pt__law_bad_right, lamQ "_law_bad_right")], (List.forall_mem_cons.mpr ⟨tb__law_known_right.2, List.forall_mem_cons.mpr ⟨tb__law_far_right.2, List.forall_mem_cons.mpr ⟨tb__law_bad_right.2, fun _ h => nomatch h⟩⟩⟩), (List.forall_mem_cons.mpr ⟨Option.isNone_iff_eq_none.mp np__law_known_right, List.forall_mem_cons.mpr ⟨Option.isNone_iff_eq_none.mp np__law_far_right, List.forall_mem_cons.mpr ⟨Option.isNone_iff_eq_none.mp np__law_bad_right, fun _ h => nomatch h⟩⟩⟩), (List.forall_mem_cons.mpr ⟨tb__law_known_right.1, List.forall_mem_cons.mpr ⟨tb__law_far_right.1, List.forall_mem_cons.mpr ⟨tb__law_bad_right.1, fun _ h => nomatch h⟩⟩⟩), fun s v => .of_eq rfl, fun H a ns hl hb hH hS => ⟨a, ns, rfl, hS, ?_, hl, hb, fun _ => rfl⟩, fun base _ _ TB => ?_⟩
  · exact (List.forall_mem_cons.mpr ⟨.nil (hH (c__law_known_right, Pt__law_known_right) (by simp)), List.forall_mem_cons.mpr ⟨.nil (hH (c__law_far_right, Pt__law_far_right) (by simp)), List.forall_mem_cons.mpr ⟨.nil (hH (c__law_bad_right, Pt__law_bad_right) (by simp)), fun _ h => nomatch h⟩⟩⟩)
  have TB__law_known_right := TB (c__law_known_right, Pt__law_known_right) (by simp)
  have TB__law_far_right := TB (c__law_far_right, Pt__law_far_right) (by simp)
  have TB__law_bad_right := TB (c__law_bad_right, Pt__law_bad_right) (by simp)
  have mT__law_known_right : (Pt__law_known_right, lamQ "_law_known_right") ∈ [(Pt__law_known_right, lamQ "_law_known_right"), (Pt__law_far_right, lamQ "_law_far_right"), (Pt__law_bad_right, lamQ "_law_bad_right")] := by simp
  have mT__law_far_right : (Pt__law_far_right, lamQ "_law_far_right") ∈ [(Pt__law_known_right, lamQ "_law_known_right"), (Pt__law_far_right, lamQ "_law_far_right"), (Pt__law_bad_right, lamQ "_law_bad_right")] := by simp
  have mT__law_bad_right : (Pt__law_bad_right, lamQ "_law_bad_right") ∈ [(Pt__law_known_right, lamQ "_law_known_right"), (Pt__law_far_right, lamQ "_law_far_right"), (Pt__law_bad_right, lamQ "_law_bad_right")] := by simp
  have uT__law_known_right : ∀ p ∈ [(Pt__law_known_right, lamQ "_law_known_right"), (Pt__law_far_right, lamQ "_law_far_right"), (Pt__law_bad_right, lamQ "_law_bad_right")], p.1 = Pt__law_known_right → p.2 = lamQ "_law_known_right" := (List.forall_mem_cons.mpr ⟨fun _ => rfl, List.forall_mem_cons.mpr ⟨fun z => absurd z (Ne.symm nq__law_known_right__law_far_right), List.forall_mem_cons.mpr ⟨fun z => absurd z (Ne.symm nq__law_known_right__law_bad_right), fun _ h => nomatch h⟩⟩⟩)
  have uT__law_far_right : ∀ p ∈ [(Pt__law_known_right, lamQ "_law_known_right"), (Pt__law_far_right, lamQ "_law_far_right"), (Pt__law_bad_right, lamQ "_law_bad_right")], p.1 = Pt__law_far_right → p.2 = lamQ "_law_far_right" := (List.forall_mem_cons.mpr ⟨fun z => absurd z nq__law_known_right__law_far_right, List.forall_mem_cons.mpr ⟨fun _ => rfl, List.forall_mem_cons.mpr ⟨fun z => absurd z (Ne.symm nq__law_far_right__law_bad_right), fun _ h => nomatch h⟩⟩⟩)
  have uT__law_bad_right : ∀ p ∈ [(Pt__law_known_right, lamQ "_law_known_right"), (Pt__law_far_right, lamQ "_law_far_right"), (Pt__law_bad_right, lamQ "_law_bad_right")], p.1 = Pt__law_bad_right → p.2 = lamQ "_law_bad_right" := (List.forall_mem_cons.mpr ⟨fun z => absurd z nq__law_known_right__law_bad_right, List.forall_mem_cons.mpr ⟨fun z => absurd z nq__law_far_right__law_bad_right, List.forall_mem_cons.mpr ⟨fun _ => rfl, fun _ h => nomatch h⟩⟩⟩)
  have c1 := ok_is_number (P := l.prog) (w := w) (base := base) D_is_number B
  have c1G := ok_is_numberG (P := l.prog) (w := w) (base := base) D_is_number B
  have c2 := ok_asked_turners D_asked_turners B g_MOST c1
  have c3 := ok_left_over (P := l.prog) (w := w) (base := base) D_left_over B
  have c4 := ok_Same_shows (CU := C_Unlike) D_Same_shows c3
  have c5 := ok_Unlike___init__ (P := l.prog) (w := w) (base := base) O D_Unlike___init__
  have c6 := ok_Unlike_shows O D_Unlike_shows c3
  have c7 := ok_compared O D_compared c2 c3 c5
  have c12 := ok_asked_door D_asked_door c1
  have c13 := ok_asked_small (P := l.prog) (w := w) (base := base) D_asked_small B g_SMALL
  have c14 := ok_stands_open (P := l.prog) (w := w) (base := base) D_stands_open B
  have c15 := ok_is_open D_is_open c2 c12 c14
  have c16 := ok_open_doors D_open_doors B c2 c13 c14
  have c17 := ok_kept D_kept c2 c3
  have c18 := ok_turners_for D_turners_for B c1 c13
  have c19 := ok_common (P := l.prog) (w := w) (base := base) D_common
  have c20 := ok_both D_both c19
  have c21 := ok_asked_count (P := l.prog) (w := w) (base := base) D_asked_count B
  have c22 := ok_how_many D_how_many B g_FEW c2 c21 c3 c20
  have c23 := ok_round_of D_round_of c2 c3 c20
  have c24 := ok_root (P := l.prog) (w := w) (base := base) D_root
  have c25 := ok_by_all D_by_all c21 c24
  have c26s := ok_by_stretch D_by_stretch c1 c12 g_GREATEST
  have x2 := CalX.or c2 (x_asked_turners_bad D_asked_turners B g_MOST E_BadTurners c1G)
  have x12 := CalX.or c12 (x_asked_door_bad D_asked_door E_BadDoor c1G)
  have x13 := CalX.or c13 (x_asked_small_bad D_asked_small B g_SMALL E_BadCount)
  have x21 := CalX.or c21 (x_asked_count_bad D_asked_count B E_BadCount)
  have x15 := x_is_open_bad D_is_open x2 x12 c14
  have x16 := x_open_doors_bad D_open_doors B x2 x13 c14
  have x17 := x_kept_bad D_kept x2 c3
  have x18 := x_turners_for_bad D_turners_for B E_BadDoors c1G x13
  have x22 := x_how_many_bad D_how_many B g_FEW E_TooMany x2 x21 c3 c20
  have x23 := x_round_of_bad D_round_of x2 c3 c20
  have x25 := x_by_stretch_bad D_by_stretch g_GREATEST E_BadStretch E_BadCount c1G x12
  have x26 := x_compared_bad O D_compared x2 c3 c5
  have c26 := ok__law_kinds (P := l.prog) (w := w) (base := base) KD D__law_kinds B
  have c27 := ok__law_refused KD D__law_refused B c26
  have p0 := Df.zero (P := l.prog) (w := w) (base := base) D__law_plain
  have p1 := ok__law_plain D__law_plain B p0
  have p2 := ok__law_plain D__law_plain B p1
  have p3 := ok__law_plain D__law_plain B p2
  have c28 := ok__law_truths (P := l.prog) (w := w) (base := base) D__law_truths B
  have c29 := ok__law_known_right (C := six C_BadTurners C_BadDoor C_BadCount C_BadDoors C_BadStretch C_TooMany) D__law_known_right TB__law_known_right mT__law_known_right uT__law_known_right B c18 p3 c22 c25 c23 c17 c27 x22
  have c30 := ok__law_far_right (C := six C_BadTurners C_BadDoor C_BadCount C_BadDoors C_BadStretch C_TooMany) D__law_far_right TB__law_far_right mT__law_far_right uT__law_far_right O B c26s c15 c28 c7 c4 c6 c5 p3 c22 c23 c16 c27 x25
  have c31 := ok__law_bad_right (C := six C_BadTurners C_BadDoor C_BadCount C_BadDoors C_BadStretch C_TooMany) D__law_bad_right TB__law_bad_right mT__law_bad_right uT__law_bad_right B c27 c16 x17 x23 x15 x16 x26 x18
  exact ok_law F_law B c29 c30 c31
end Dt
open PySem PySem.W PyProof.Rows
set_option maxHeartbeats 0 in
theorem PySem.Challenge.cw_doorturns_k10_whole_known_holds : PySem.Challenge.rw_doorturns_k10_whole_known.Holds := by
  w_on; o_law; k_head; (case hw => w_witness2)
  k_fill
  refine Dt.walk_ofTa (l := PySem.Challenge.rw_doorturns_k10_whole_known) (n := 63) (k := 8) (x := "_law_script") (CX := fun _ => L2.CX0) ["_law_known_right", "_law_far_right", "_law_bad_right"] rfl (by decide) rfl ⟨rfl, by decide, by decide⟩ (by decide +kernel) (fun w h Y => Y.1) ?F (fun _ _ _ _ _ h => h)
  case F =>
    intro w mg fa h KX G hmg own
    refine' Dt.all_mk KX G hmg own ?aC_Answer ?aC_Same ?pg_Same ?hd_Same ?po_Same ?sa_Same ?mk_Same ?kc_Same ?tp_Same ?ac_Same ?aC_Unlike ?pg_Unlike ?hd_Unlike ?po_Unlike ?sa_Unlike ?mk_Unlike ?kc_Unlike ?tp_Unlike ?ac_Unlike ?in_Same ?no_Unlike ?hn_O ?htk_O ?su_Same_Answer ?su_Same_Same ?su_Same_Unlike ?su_Unlike_Answer ?su_Unlike_Same ?su_Unlike_Unlike ?ic_Answer ?ty_Answer ?ic_Same ?ty_Same ?ic_Unlike ?ty_Unlike ?aC_DoorError ?sb_DoorError ?hd_DoorError ?ty_DoorError ?aC_BadTurners ?xp_BadTurners ?kc_BadTurners ?ty_BadTurners ?ic_BadTurners ?ga_BadTurners ?gg_BadTurners ?sb_BadTurners ?hd_BadTurners ?ac_BadTurners ?tp_BadTurners ?su_BadTurners_DoorError ?aC_BadDoor ?xp_BadDoor ?kc_BadDoor ?ty_BadDoor ?ic_BadDoor ?ga_BadDoor ?gg_BadDoor ?sb_BadDoor ?hd_BadDoor ?ac_BadDoor ?tp_BadDoor ?su_BadDoor_DoorError ?aC_BadCount ?xp_BadCount ?kc_BadCount ?ty_BadCount ?ic_BadCount ?ga_BadCount ?gg_BadCount ?sb_BadCount ?hd_BadCount ?ac_BadCount ?tp_BadCount ?su_BadCount_DoorError ?aC_BadDoors ?xp_BadDoors ?kc_BadDoors ?ty_BadDoors ?ic_BadDoors ?ga_BadDoors ?gg_BadDoors ?sb_BadDoors ?hd_BadDoors ?ac_BadDoors ?tp_BadDoors ?su_BadDoors_DoorError ?aC_BadStretch ?xp_BadStretch ?kc_BadStretch ?ty_BadStretch ?ic_BadStretch ?ga_BadStretch ?gg_BadStretch ?sb_BadStretch ?hd_BadStretch ?ac_BadStretch ?tp_BadStretch ?su_BadStretch_DoorError ?aC_TooMany ?xp_TooMany ?kc_TooMany ?ty_TooMany ?ic_TooMany ?ga_TooMany ?gg_TooMany ?sb_TooMany ?hd_TooMany ?ac_TooMany ?tp_TooMany ?su_TooMany_DoorError ?vE_BadTurners ?su_BadTurners_BadTurners ?su_BadTurners_BadDoor ?su_BadTurners_BadCount ?su_BadTurners_BadDoors ?su_BadTurners_BadStretch ?su_BadTurners_TooMany ?vE_BadDoor ?su_BadDoor_BadTurners ?su_BadDoor_BadDoor ?su_BadDoor_BadCount ?su_BadDoor_BadDoors ?su_BadDoor_BadStretch ?su_BadDoor_TooMany ?vE_BadCount ?su_BadCount_BadTurners ?su_BadCount_BadDoor ?su_BadCount_BadCount ?su_BadCount_BadDoors ?su_BadCount_BadStretch ?su_BadCount_TooMany ?vE_BadDoors ?su_BadDoors_BadTurners ?su_BadDoors_BadDoor ?su_BadDoors_BadCount ?su_BadDoors_BadDoors ?su_BadDoors_BadStretch ?su_BadDoors_TooMany ?vE_BadStretch ?su_BadStretch_BadTurners ?su_BadStretch_BadDoor ?su_BadStretch_BadCount ?su_BadStretch_BadDoors ?su_BadStretch_BadStretch ?su_BadStretch_TooMany ?vE_TooMany ?su_TooMany_BadTurners ?su_TooMany_BadDoor ?su_TooMany_BadCount ?su_TooMany_BadDoors ?su_TooMany_BadStretch ?su_TooMany_TooMany ?a_is_number ?l_is_number ?q_is_number ?k_is_number ?a_asked_turners ?l_asked_turners ?q_asked_turners ?k_asked_turners ?a_asked_door ?l_asked_door ?q_asked_door ?k_asked_door ?a_asked_small ?l_asked_small ?q_asked_small ?k_asked_small ?a_stands_open ?l_stands_open ?q_stands_open ?k_stands_open ?a_is_open ?l_is_open ?q_is_open ?k_is_open ?a_open_doors ?l_open_doors ?q_open_doors ?k_open_doors ?a_left_over ?l_left_over ?q_left_over ?k_left_over ?a_kept ?l_kept ?q_kept ?k_kept ?a_Same_shows ?i_Same_shows ?l_Same_shows ?q_Same_shows ?k_Same_shows ?a_Unlike___init__ ?i_Unlike___init__ ?l_Unlike___init__ ?q_Unlike___init__ ?k_Unlike___init__ ?a_Unlike_shows ?i_Unlike_shows ?l_Unlike_shows ?q_Unlike_shows ?k_Unlike_shows ?a_turners_for ?l_turners_for ?q_turners_for ?k_turners_for ?a_common ?l_common ?q_common ?k_common ?a_both ?l_both ?q_both ?k_both ?a_asked_count ?l_asked_count ?q_asked_count ?k_asked_count ?a_how_many ?l_how_many ?q_how_many ?k_how_many ?a_round_of ?l_round_of ?q_round_of ?k_round_of ?a_root ?l_root ?q_root ?k_root ?a_by_all ?l_by_all ?q_by_all ?k_by_all ?a_by_stretch ?l_by_stretch ?q_by_stretch ?k_by_stretch ?a_compared ?l_compared ?q_compared ?k_compared ?a__law_kinds ?l__law_kinds ?q__law_kinds ?k__law_kinds ?a__law_refused ?l__law_refused ?q__law_refused ?k__law_refused ?a__law_plain ?l__law_plain ?q__law_plain ?k__law_plain ?a__law_truths ?l__law_truths ?q__law_truths ?k__law_truths ?a__law_known_right ?l__law_known_right ?q__law_known_right ?k__law_known_right ?lc__law_known_right ?lp__law_known_right ?np__law_known_right ?a__law_far_right ?l__law_far_right ?q__law_far_right ?k__law_far_right ?lc__law_far_right ?lp__law_far_right ?np__law_far_right ?a__law_bad_right ?l__law_bad_right ?q__law_bad_right ?k__law_bad_right ?lc__law_bad_right ?lp__law_bad_right ?np__law_bad_right ?a_law ?l_law ?q_law ?k_law ?h_MOST ?h_SMALL ?h_FEW ?h_GREATEST ?z_isinstance ?z_len ?z_all ?z_any ?z_sum ?z_abs ?z_max ?z_min ?z_range ?z_sorted ?z_enumerate ?z_int ?z_bool ?z_list ?z_set ?z_str ?z_tuple ?z_ValueError ?nq__law_known_right__law_far_right ?nq__law_known_right__law_bad_right ?nq__law_far_right__law_bad_right
    (case aC_Answer => k_is)
    (case aC_Same => k_is)
    (case pg_Same => k_is)
    (case hd_Same => k_is)
    (case po_Same => k_is)
    (case sa_Same => k_is)
    (case mk_Same => k_is)
    (case kc_Same => k_is)
    (case tp_Same => k_is)
    (case ac_Same => k_is)
    (case aC_Unlike => k_is)
    (case pg_Unlike => k_is)
    (case hd_Unlike => k_is)
    (case po_Unlike => k_is)
    (case sa_Unlike => k_is)
    (case mk_Unlike => k_is)
    (case kc_Unlike => k_is)
    (case tp_Unlike => k_is)
    (case ac_Unlike => k_is)
    (case in_Same => k_is)
    (case no_Unlike => k_is)
    (case hn_O => k_is)
    (case htk_O => k_is)
    (case su_Same_Answer => first | rfl | k_is)
    (case su_Same_Same => first | rfl | k_is)
    (case su_Same_Unlike => first | rfl | k_is)
    (case su_Unlike_Answer => first | rfl | k_is)
    (case su_Unlike_Same => first | rfl | k_is)
    (case su_Unlike_Unlike => first | rfl | k_is)
    (case ic_Answer => k_is)
    (case ty_Answer => k_is)
    (case ic_Same => k_is)
    (case ty_Same => k_is)
    (case ic_Unlike => k_is)
    (case ty_Unlike => k_is)
    (case aC_DoorError => k_is)
    (case sb_DoorError => k_is)
    (case hd_DoorError => k_is)
    (case ty_DoorError => k_is)
    (case aC_BadTurners => k_is)
    (case xp_BadTurners => k_exc)
    (case kc_BadTurners => k_is)
    (case ty_BadTurners => k_is)
    (case ic_BadTurners => k_is)
    (case ga_BadTurners => k_is)
    (case gg_BadTurners => k_is)
    (case sb_BadTurners => k_is)
    (case hd_BadTurners => k_is)
    (case ac_BadTurners => k_is)
    (case tp_BadTurners => k_is)
    (case su_BadTurners_DoorError => first | rfl | k_is)
    (case aC_BadDoor => k_is)
    (case xp_BadDoor => k_exc)
    (case kc_BadDoor => k_is)
    (case ty_BadDoor => k_is)
    (case ic_BadDoor => k_is)
    (case ga_BadDoor => k_is)
    (case gg_BadDoor => k_is)
    (case sb_BadDoor => k_is)
    (case hd_BadDoor => k_is)
    (case ac_BadDoor => k_is)
    (case tp_BadDoor => k_is)
    (case su_BadDoor_DoorError => first | rfl | k_is)
    (case aC_BadCount => k_is)
    (case xp_BadCount => k_exc)
    (case kc_BadCount => k_is)
    (case ty_BadCount => k_is)
    (case ic_BadCount => k_is)
    (case ga_BadCount => k_is)
    (case gg_BadCount => k_is)
    (case sb_BadCount => k_is)
    (case hd_BadCount => k_is)
    (case ac_BadCount => k_is)
    (case tp_BadCount => k_is)
    (case su_BadCount_DoorError => first | rfl | k_is)
    (case aC_BadDoors => k_is)
    (case xp_BadDoors => k_exc)
    (case kc_BadDoors => k_is)
    (case ty_BadDoors => k_is)
    (case ic_BadDoors => k_is)
    (case ga_BadDoors => k_is)
    (case gg_BadDoors => k_is)
    (case sb_BadDoors => k_is)
    (case hd_BadDoors => k_is)
    (case ac_BadDoors => k_is)
    (case tp_BadDoors => k_is)
    (case su_BadDoors_DoorError => first | rfl | k_is)
    (case aC_BadStretch => k_is)
    (case xp_BadStretch => k_exc)
    (case kc_BadStretch => k_is)
    (case ty_BadStretch => k_is)
    (case ic_BadStretch => k_is)
    (case ga_BadStretch => k_is)
    (case gg_BadStretch => k_is)
    (case sb_BadStretch => k_is)
    (case hd_BadStretch => k_is)
    (case ac_BadStretch => k_is)
    (case tp_BadStretch => k_is)
    (case su_BadStretch_DoorError => first | rfl | k_is)
    (case aC_TooMany => k_is)
    (case xp_TooMany => k_exc)
    (case kc_TooMany => k_is)
    (case ty_TooMany => k_is)
    (case ic_TooMany => k_is)
    (case ga_TooMany => k_is)
    (case gg_TooMany => k_is)
    (case sb_TooMany => k_is)
    (case hd_TooMany => k_is)
    (case ac_TooMany => k_is)
    (case tp_TooMany => k_is)
    (case su_TooMany_DoorError => first | rfl | k_is)
    (case vE_BadTurners => first | rfl | k_is)
    (case su_BadTurners_BadTurners => first | rfl | k_is)
    (case su_BadTurners_BadDoor => first | rfl | k_is)
    (case su_BadTurners_BadCount => first | rfl | k_is)
    (case su_BadTurners_BadDoors => first | rfl | k_is)
    (case su_BadTurners_BadStretch => first | rfl | k_is)
    (case su_BadTurners_TooMany => first | rfl | k_is)
    (case vE_BadDoor => first | rfl | k_is)
    (case su_BadDoor_BadTurners => first | rfl | k_is)
    (case su_BadDoor_BadDoor => first | rfl | k_is)
    (case su_BadDoor_BadCount => first | rfl | k_is)
    (case su_BadDoor_BadDoors => first | rfl | k_is)
    (case su_BadDoor_BadStretch => first | rfl | k_is)
    (case su_BadDoor_TooMany => first | rfl | k_is)
    (case vE_BadCount => first | rfl | k_is)
    (case su_BadCount_BadTurners => first | rfl | k_is)
    (case su_BadCount_BadDoor => first | rfl | k_is)
    (case su_BadCount_BadCount => first | rfl | k_is)
    (case su_BadCount_BadDoors => first | rfl | k_is)
    (case su_BadCount_BadStretch => first | rfl | k_is)
    (case su_BadCount_TooMany => first | rfl | k_is)
    (case vE_BadDoors => first | rfl | k_is)
    (case su_BadDoors_BadTurners => first | rfl | k_is)
    (case su_BadDoors_BadDoor => first | rfl | k_is)
    (case su_BadDoors_BadCount => first | rfl | k_is)
    (case su_BadDoors_BadDoors => first | rfl | k_is)
    (case su_BadDoors_BadStretch => first | rfl | k_is)
    (case su_BadDoors_TooMany => first | rfl | k_is)
    (case vE_BadStretch => first | rfl | k_is)
    (case su_BadStretch_BadTurners => first | rfl | k_is)
    (case su_BadStretch_BadDoor => first | rfl | k_is)
    (case su_BadStretch_BadCount => first | rfl | k_is)
    (case su_BadStretch_BadDoors => first | rfl | k_is)
    (case su_BadStretch_BadStretch => first | rfl | k_is)
    (case su_BadStretch_TooMany => first | rfl | k_is)
    (case vE_TooMany => first | rfl | k_is)
    (case su_TooMany_BadTurners => first | rfl | k_is)
    (case su_TooMany_BadDoor => first | rfl | k_is)
    (case su_TooMany_BadCount => first | rfl | k_is)
    (case su_TooMany_BadDoors => first | rfl | k_is)
    (case su_TooMany_BadStretch => first | rfl | k_is)
    (case su_TooMany_TooMany => first | rfl | k_is)
    (case a_is_number => k_is)
    (case l_is_number => k_is)
    (case q_is_number => k_is)
    (case k_is_number => k_is)
    (case a_asked_turners => k_is)
    (case l_asked_turners => k_is)
    (case q_asked_turners => k_is)
    (case k_asked_turners => k_is)
    (case a_asked_door => k_is)
    (case l_asked_door => k_is)
    (case q_asked_door => k_is)
    (case k_asked_door => k_is)
    (case a_asked_small => k_is)
    (case l_asked_small => k_is)
    (case q_asked_small => k_is)
    (case k_asked_small => k_is)
    (case a_stands_open => k_is)
    (case l_stands_open => k_is)
    (case q_stands_open => k_is)
    (case k_stands_open => k_is)
    (case a_is_open => k_is)
    (case l_is_open => k_is)
    (case q_is_open => k_is)
    (case k_is_open => k_is)
    (case a_open_doors => k_is)
    (case l_open_doors => k_is)
    (case q_open_doors => k_is)
    (case k_open_doors => k_is)
    (case a_left_over => k_is)
    (case l_left_over => k_is)
    (case q_left_over => k_is)
    (case k_left_over => k_is)
    (case a_kept => k_is)
    (case l_kept => k_is)
    (case q_kept => k_is)
    (case k_kept => k_is)
    (case a_Same_shows => k_is)
    (case i_Same_shows => k_is)
    (case l_Same_shows => k_is)
    (case q_Same_shows => k_is)
    (case k_Same_shows => k_is)
    (case a_Unlike___init__ => k_is)
    (case i_Unlike___init__ => k_is)
    (case l_Unlike___init__ => k_is)
    (case q_Unlike___init__ => k_is)
    (case k_Unlike___init__ => k_is)
    (case a_Unlike_shows => k_is)
    (case i_Unlike_shows => k_is)
    (case l_Unlike_shows => k_is)
    (case q_Unlike_shows => k_is)
    (case k_Unlike_shows => k_is)
    (case a_turners_for => k_is)
    (case l_turners_for => k_is)
    (case q_turners_for => k_is)
    (case k_turners_for => k_is)
    (case a_common => k_is)
    (case l_common => k_is)
    (case q_common => k_is)
    (case k_common => k_is)
    (case a_both => k_is)
    (case l_both => k_is)
    (case q_both => k_is)
    (case k_both => k_is)
    (case a_asked_count => k_is)
    (case l_asked_count => k_is)
    (case q_asked_count => k_is)
    (case k_asked_count => k_is)
    (case a_how_many => k_is)
    (case l_how_many => k_is)
    (case q_how_many => k_is)
    (case k_how_many => k_is)
    (case a_round_of => k_is)
    (case l_round_of => k_is)
    (case q_round_of => k_is)
    (case k_round_of => k_is)
    (case a_root => k_is)
    (case l_root => k_is)
    (case q_root => k_is)
    (case k_root => k_is)
    (case a_by_all => k_is)
    (case l_by_all => k_is)
    (case q_by_all => k_is)
    (case k_by_all => k_is)
    (case a_by_stretch => k_is)
    (case l_by_stretch => k_is)
    (case q_by_stretch => k_is)
    (case k_by_stretch => k_is)
    (case a_compared => k_is)
    (case l_compared => k_is)
    (case q_compared => k_is)
    (case k_compared => k_is)
    (case a__law_kinds => k_is)
    (case l__law_kinds => k_is)
    (case q__law_kinds => k_is)
    (case k__law_kinds => k_is)
    (case a__law_refused => k_is)
    (case l__law_refused => k_is)
    (case q__law_refused => k_is)
    (case k__law_refused => k_is)
    (case a__law_plain => k_is)
    (case l__law_plain => k_is)
    (case q__law_plain => k_is)
    (case k__law_plain => k_is)
    (case a__law_truths => k_is)
    (case l__law_truths => k_is)
    (case q__law_truths => k_is)
    (case k__law_truths => k_is)
    (case a__law_known_right => k_is)
    (case l__law_known_right => k_is)
    (case q__law_known_right => k_is)
    (case k__law_known_right => k_is)
    (case lc__law_known_right => k_is)
    (case lp__law_known_right => exact rfl)
    (case np__law_known_right => first | exact rfl | decide +kernel)
    (case a__law_far_right => k_is)
    (case l__law_far_right => k_is)
    (case q__law_far_right => k_is)
    (case k__law_far_right => k_is)
    (case lc__law_far_right => k_is)
    (case lp__law_far_right => exact rfl)
    (case np__law_far_right => first | exact rfl | decide +kernel)
    (case a__law_bad_right => k_is)
    (case l__law_bad_right => k_is)
    (case q__law_bad_right => k_is)
    (case k__law_bad_right => k_is)
    (case lc__law_bad_right => k_is)
    (case lp__law_bad_right => exact rfl)
    (case np__law_bad_right => first | exact rfl | decide +kernel)
    (case a_law => k_is)
    (case l_law => k_is)
    (case q_law => k_is)
    (case k_law => k_is)
    (case h_MOST => k_is)
    (case h_SMALL => k_is)
    (case h_FEW => k_is)
    (case h_GREATEST => k_is)
    (case z_isinstance => k_is)
    (case z_len => k_is)
    (case z_all => k_is)
    (case z_any => k_is)
    (case z_sum => k_is)
    (case z_abs => k_is)
    (case z_max => k_is)
    (case z_min => k_is)
    (case z_range => k_is)
    (case z_sorted => k_is)
    (case z_enumerate => k_is)
    (case z_int => k_is)
    (case z_bool => k_is)
    (case z_list => k_is)
    (case z_set => k_is)
    (case z_str => k_is)
    (case z_tuple => k_is)
    (case z_ValueError => k_is)
    (case nq__law_known_right__law_far_right => decide)
    (case nq__law_known_right__law_bad_right => decide)
    (case nq__law_far_right__law_bad_right => decide)

